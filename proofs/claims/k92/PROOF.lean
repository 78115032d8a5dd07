import PyProof.Rows.All
import HandS.ForMost
import HandS.Exc
import HandS.ExcOwn
import HandS.TryOnly
import HandS.WordsExc
import HandS.TupAny
import HandS.IsInst
import HandS.RevRange
import HandS.ExcInit
import HandS.ExcField
import PySem.Challenge.RW_wardenworks_k92_merged_trees
set_option Elab.async false
set_option linter.all false
set_option maxRecDepth 100000
/-! ## DL, part 1: data, cells, results (plain functions) -/
namespace DL
open PySem
abbrev D := PyData
/-- what a slot holds: nothing that is told, data that nobody changes, a list of the frame's own, a list of own lists -/
inductive Cell where
  | un
  | d (x : D)
  | own (xs : List D)
  | own2 (xss : List (List D))
abbrev Env := List Cell
/-- a result: none told, a value, an exception of the class named k with its fields -/
inductive R (α : Type) where
  | no
  | ok (a : α)
  | ex (k : Str) (fs : List (Str × D))
def R.bind {α β : Type} : R α → (α → R β) → R β
  | .no, _ => .no
  | .ok a, f => f a
  | .ex k fs, _ => .ex k fs
@[simp] theorem R.bind_ok {α β : Type} (a : α) (f : α → R β) : (R.ok a).bind f = f a := rfl
@[simp] theorem R.bind_no {α β : Type} (f : α → R β) : (R.no : R α).bind f = .no := rfl
@[simp] theorem R.bind_ex {α β : Type} (k : Str) (fs : List (Str × D)) (f : α → R β) : (R.ex k fs : R α).bind f = .ex k fs := rfl
/-- a statement's result -/
inductive Out where
  | no
  | nx (e : Env)
  | rt (c : Cell)
  | bk (e : Env)
  | ct (e : Env)
  | ex (k : Str) (fs : List (Str × D)) (e : Env)
/-- an expression's result within a statement -/
def R.into {α : Type} (r : R α) (e : Env) (f : α → Out) : Out :=
  match r with
  | .no => .no
  | .ok a => f a
  | .ex k fs => .ex k fs e
@[simp] theorem R.into_ok {α : Type} (a : α) (e : Env) (f : α → Out) : (R.ok a).into e f = f a := rfl
@[simp] theorem R.into_no {α : Type} (e : Env) (f : α → Out) : (R.no : R α).into e f = .no := rfl
@[simp] theorem R.into_ex {α : Type} (k : Str) (fs : List (Str × D)) (e : Env) (f : α → Out) : (R.ex k fs : R α).into e f = .ex k fs e := rfl
def Out.andThen (o : Out) (f : Env → Out) : Out :=
  match o with
  | .nx e => f e
  | o => o
@[simp] theorem Out.andThen_nx (e : Env) (f : Env → Out) : (Out.nx e).andThen f = f e := rfl
@[simp] theorem Out.andThen_no (f : Env → Out) : Out.no.andThen f = .no := rfl
@[simp] theorem Out.andThen_rt (c : Cell) (f : Env → Out) : (Out.rt c).andThen f = .rt c := rfl
@[simp] theorem Out.andThen_bk (e : Env) (f : Env → Out) : (Out.bk e).andThen f = .bk e := rfl
@[simp] theorem Out.andThen_ct (e : Env) (f : Env → Out) : (Out.ct e).andThen f = .ct e := rfl
@[simp] theorem Out.andThen_ex (k : Str) (fs : List (Str × D)) (e : Env) (f : Env → Out) : (Out.ex k fs e).andThen f = .ex k fs e := rfl

/-- as data that is only read -/
def Cell.view : Cell → Option D
  | .un => none
  | .d x => some x
  | .own xs => some (.list xs)
  | .own2 xss => some (.list (xss.map .list))
def Cell.items : Cell → Option (List D)
  | .d (.list xs) => some xs
  | .d (.tuple xs) => some xs
  | .own xs => some xs
  | _ => none
def getC (i : Nat) (e : Env) : R Cell := match e[i]? with
  | some .un => .no
  | some c => .ok c
  | none => .no
def Cell.val : Cell → R Cell
  | .d x => .ok (.d x)
  | _ => .no
def varD (i : Nat) (e : Env) : R Cell := (getC i e).bind Cell.val
def cstD (x : D) (_ : Env) : R Cell := .ok (.d x)
def freezeC : Cell → Cell
  | .own xs => .d (.list xs)
  | .own2 xss => .d (.list (xss.map .list))
  | c => c
def freeze (i : Nat) (e : Env) : Env := match e[i]? with
  | some c => e.set i (freezeC c)
  | none => e
def intI (f : Int → Int → Int) (x y : Cell) : R Cell := match x, y with
  | .d (.int i), .d (.int j) => .ok (.d (.int (f i j)))
  | _, _ => .no
def intB (f : Int → Int → Bool) (x y : Cell) : R Cell := match x, y with
  | .d (.int i), .d (.int j) => .ok (.d (.bool (f i j)))
  | _, _ => .no
def mulD (x y : Cell) : R Cell := match x, y with
  | .d (.int i), .d (.int j) => if (-(2 ^ 64) < i ∧ i < 2 ^ 64) ∨ (-(2 ^ 64) < j ∧ j < 2 ^ 64) then .ok (.d (.int (i * j))) else .no
  | c, .d (.int k) => match c with
    | .own xs => if -(2 ^ 63) ≤ k ∧ k < 2 ^ 63 ∧ xs.length * k.toNat ≤ 16777216 then .ok (.own (List.replicate k.toNat xs).flatten) else .no
    | _ => .no
  | _, _ => .no
def divD (x y : Cell) : R Cell := match x, y with
  | .d (.int i), .d (.int j) => if 0 < j ∧ j < 1073741824 then .ok (.d (.int (i / j))) else .no
  | _, _ => .no
def modD (x y : Cell) : R Cell := match x, y with
  | .d (.int i), .d (.int j) => if 0 < j then .ok (.d (.int (i % j))) else .no
  | _, _ => .no
def powD (x y : Cell) : R Cell := match x, y with
  | .d (.int i), .d (.int j) => if 0 ≤ j ∧ j ≤ 1000000 ∧ i.natAbs < 2 ^ 64 then .ok (.d (.int (i ^ j.toNat))) else .no
  | _, _ => .no
def negD (x : Cell) : R Cell := match x with
  | .d (.int i) => .ok (.d (.int (-i)))
  | _ => .no
/-- + of ints, texts, tuples, lists -/
def addD (x y : Cell) : R Cell := match x, y with
  | .d (.int i), .d (.int j) => .ok (.d (.int (i + j)))
  | .d (.str s), .d (.str t) => if s.length + t.length ≤ 16777216 then .ok (.d (.str (s ++ t))) else .no
  | .d (.tuple xs), .d (.tuple ys) => if xs.length + ys.length ≤ 16777216 then .ok (.d (.tuple (xs ++ ys))) else .no
  | .own xs, .own ys => if xs.length + ys.length ≤ 16777216 then .ok (.own (xs ++ ys)) else .no
  | _, _ => .no
def eqD (x y : Cell) : R Cell := match x.view, y.view with
  | some a, some b => if SeqAt.shaped a = true ∧ SeqAt.shaped b = true then .ok (.d (.bool (PyData.eqv a b))) else .no
  | _, _ => .no
def neD (x y : Cell) : R Cell := match x.view, y.view with
  | some a, some b => if SeqAt.shaped a = true ∧ SeqAt.shaped b = true then .ok (.d (.bool (!PyData.eqv a b))) else .no
  | _, _ => .no
def isNoneD (x : Cell) : R Cell := match x with
  | .un => .no
  | .d .none => .ok (.d (.bool true))
  | _ => .ok (.d (.bool false))
def notNoneD (x : Cell) : R Cell := match x with
  | .un => .no
  | .d .none => .ok (.d (.bool false))
  | _ => .ok (.d (.bool true))
/-- the place of an index -/
def ixD {α : Type} (xs : List α) (i : Int) : Option α := L2.atI xs i
def idxD (x y : Cell) : R Cell := match y with
  | .d (.int i) => match x with
    | .d (.list xs) => match L2.atI xs i with | some v => .ok (.d v) | none => .no
    | .d (.tuple xs) => match L2.atI xs i with | some v => .ok (.d v) | none => .no
    | .own xs => match L2.atI xs i with | some v => .ok (.d v) | none => .no
    | .own2 xss => match L2.atI xss i with | some v => .ok (.own v) | none => .no
    | _ => .no
  | _ => .no
def lenD (x : Cell) : R Cell := match x with
  | .d (.list xs) => .ok (.d (.int xs.length))
  | .d (.tuple xs) => .ok (.d (.int xs.length))
  | .d (.str s) => if s.length ≤ 16777216 then .ok (.d (.int s.length)) else .no
  | .own xs => .ok (.d (.int xs.length))
  | .own2 xss => .ok (.d (.int xss.length))
  | _ => .no
def maxD (x y : Cell) : R Cell := intI (fun i j => if j > i then j else i) x y
def minD (x y : Cell) : R Cell := intI (fun i j => if j < i then j else i) x y
def listD (x : Cell) : R Cell := match x.items with
  | some xs => .ok (.own xs)
  | none => .no
def tupleD (x : Cell) : R Cell := match x.items with
  | some xs => .ok (.d (.tuple xs))
  | none => .no
def cutD {α : Type} (xs : List α) (lo hi : Option Int) : List α := (xs.drop (HT.sIx xs.length 0 lo)).take (HT.sIx xs.length xs.length hi - HT.sIx xs.length 0 lo)
def sliceD (x : Cell) (lo hi : Option Int) : R Cell := match x with
  | .d (.list xs) => .ok (.own (cutD xs lo hi))
  | .own xs => .ok (.own (cutD xs lo hi))
  | .d (.tuple xs) => .ok (.d (.tuple (cutD xs lo hi)))
  | _ => .no
def isiD (n : String) (x : Cell) : R Cell := match x with
  | .un => .no
  | .d .none => .ok (.d (.bool false))
  | .d (.bool _) => .ok (.d (.bool (n == "bool" || n == "int")))
  | .d (.int _) => .ok (.d (.bool (n == "int")))
  | .d (.str _) => .ok (.d (.bool (n == "str")))
  | .d (.list _) => .ok (.d (.bool (n == "list")))
  | .d (.tuple _) => .ok (.d (.bool (n == "tuple")))
  | .d (.dict _) => .no
  | .own _ => .ok (.d (.bool (n == "list")))
  | .own2 _ => .ok (.d (.bool (n == "list")))
def asB (x : Cell) : R Bool := match x with
  | .d (.bool b) => .ok b
  | _ => .no
def boolD (b : Bool) : R Cell := .ok (.d (.bool b))
def asD : Cell → R D
  | .d x => .ok x
  | .own xs => .ok (.list xs)
  | .own2 xss => .ok (.list (xss.map .list))
  | .un => .no
/-- a value with no place in the heap -/
def Cell.flat : Cell → Bool
  | .d .none => true
  | .d (.bool _) => true
  | .d (.int _) => true
  | .d (.str _) => true
  | _ => false
/-- f over the items, in order -/
def mapR {α β : Type} (f : α → R β) : List α → R (List β)
  | [] => .ok []
  | x :: xs => (f x).bind fun y => (mapR f xs).bind fun ys => .ok (y :: ys)
/-- .. of those for which t holds -/
def mapIf {α β : Type} (t : α → R Bool) (f : α → R β) : List α → R (List β)
  | [] => .ok []
  | x :: xs => (t x).bind fun b => if b = true then (f x).bind fun y => (mapIf t f xs).bind fun ys => .ok (y :: ys) else mapIf t f xs
/-- a for over items -/
def forD (g : D → Env → Out) : List D → Env → Out
  | [], e => .nx e
  | x :: xs, e => match g x e with
    | .nx e' => forD g xs e'
    | .ct e' => forD g xs e'
    | .bk e' => .nx e'
    | o => o
/-- a while: at most n turns -/
def whileD (c : Env → R Bool) (g : Env → Out) : Nat → Env → Out
  | 0, _ => .no
  | n + 1, e => (c e).into e fun b => if b = true then
      (match g e with
      | .nx e' => whileD c g n e'
      | .ct e' => whileD c g n e'
      | .bk e' => .nx e'
      | o => o) else .nx e
def upFrom (lo : Int) (n : Nat) : List D := (List.range n).map fun i => .int (lo + (i : Nat))
def stepFrom (lo c : Int) (n : Nat) : List D := (List.range n).map fun i => .int (lo + (i : Nat) * c)
/-- a range's items -/
def rng1D (x : Cell) : R (List D) := match x with
  | .d (.int j) => if -(2 ^ 62) ≤ j ∧ j < 2 ^ 62 then .ok (upFrom 0 j.toNat) else .no
  | _ => .no
def rng2D (x y : Cell) : R (List D) := match x, y with
  | .d (.int i), .d (.int j) => if -(2 ^ 62) ≤ i ∧ i < 2 ^ 62 ∧ -(2 ^ 62) ≤ j ∧ j < 2 ^ 62 then .ok (upFrom i (j - i).toNat) else .no
  | _, _ => .no
/-- range(i, j, -1) -/
def rngDownD (x y z : Cell) : R (List D) := match x, y, z with
  | .d (.int i), .d (.int j), .d (.int (-1)) => if -(2 ^ 62) ≤ i ∧ i < 2 ^ 62 ∧ -(2 ^ 62) ≤ j ∧ j < 2 ^ 62 then .ok (stepFrom i (-1) (i - j).toNat) else .no
  | _, _, _ => .no
/-- reversed(range(j)) -/
def rngRevD (x : Cell) : R (List D) := match x with
  | .d (.int j) => if -(2 ^ 62) ≤ j ∧ j < 2 ^ 62 then .ok (stepFrom (0 + (((j - 0).toNat : Nat) : Int) - 1) (-1) (j - 0).toNat) else .no
  | _ => .no
def setSlot (i : Nat) (c : Cell) (e : Env) : Env := e.set i c
/-- the slots of a comprehension's own names -/
def wipeC (e : Env) : List Nat → Env
  | [] => e
  | i :: r => (wipeC e r).set i .un
/-- a target: a name, or names of a tuple's items -/
inductive Tg where
  | nm (i : Nat)
  | tp (is : List Nat)
def putAll : List Nat → List D → Env → Env
  | i :: is, x :: xs, e => putAll is xs (e.set i (.d x))
  | _, _, e => e
def Tg.put : Tg → D → Env → Option Env
  | .nm i, x, e => some (e.set i (.d x))
  | .tp is, .tuple xs, e => if xs.length = is.length then some (putAll is xs e) else none
  | .tp _, _, _ => none
def Tg.slots : Tg → List Nat
  | .nm i => [i]
  | .tp is => is
/-- a turn -/
def turnD (t : Tg) (g : Env → Out) (x : D) (e : Env) : Out := match t.put x e with
  | some e' => g e'
  | none => .no
/-- [f for t in xs if c], over the slots vs of its own names -/
def lcD (vs : List Nat) (t : Tg) (c : Env → R Bool) (f : Env → R Cell) (xs : List D) (e : Env) : R (List Cell) :=
  mapIf (fun x => match t.put x (wipeC e vs) with | some e' => c e' | none => .no) (fun x => match t.put x (wipeC e vs) with | some e' => f e' | none => .no) xs
/-- as a list of data -/
def lcL (r : R (List Cell)) : R Cell := match r with
  | .ok cs => match mapR asD cs with
    | .ok ds => if ds.length ≤ 16777216 then .ok (.own ds) else .no
    | _ => .no
  | _ => .no
/-- as a list of own lists -/
def asRow (c : Cell) : R (List D) := match c with
  | .own xs => .ok xs
  | _ => .no
def lcR (r : R (List Cell)) : R Cell := match r with
  | .ok cs => match mapR asRow cs with
    | .ok ds => if ds.length ≤ 16777216 then .ok (.own2 ds) else .no
    | _ => .no
  | _ => .no
def itemsR (c : Cell) : R (List D) := match c.items with
  | some xs => .ok xs
  | none => .no
end DL
/-! ## DL, part 2: cells over the heap, the judgements -/
namespace DL
open PySem PySem.Spec PyProof.Rows L2
variable {K : PySem.W.Frag}
/-! ### data is kept where the heap is kept -/
theorem SqL_mono {H H' : Hp} {a : Addr} {xs : List V} (e : Same H H') (h : SqL K H a xs) : SqL K H' a xs := e.seq h
theorem SqT_mono {H H' : Hp} {a : Addr} {xs : List V} (e : Same H H') (h : SqT K H a xs) : SqT K H' a xs := by
  rcases h with (h | ⟨o, h⟩) | h
  · exact .inl (.inl (e _ _ h))
  · exact .inl (.inr ⟨o, e _ _ h⟩)
  · exact .inr h
mutual
theorem Dp_mono {H H' : Hp} (e : Same H H') : ∀ (d : PyData) (v : V), Dp K H v d → Dp K H' v d
  | .none, _, h => by cases h; exact .non
  | .bool b, _, h => by cases h; exact .bl b
  | .int i, _, h => by cases h; exact .int i
  | .str x, _, h => by cases h; exact .str x
  | .list ds, _, h => by
    cases h with
    | lst hs ha => exact .lst (SqL_mono e hs) (DpAll_mono e ds _ ha)
  | .tuple ds, _, h => by
    cases h with
    | tup hs ha => exact .tup (SqT_mono e hs) (DpAll_mono e ds _ ha)
  | .dict _, _, h => by cases h
theorem DpAll_mono {H H' : Hp} (e : Same H H') : ∀ (ds : List PyData) (vs : List V), DpAll K H vs ds → DpAll K H' vs ds
  | [], _, h => by cases h; exact .nil
  | d :: ds, _, h => by
    cases h with
    | cons h1 h2 => exact .cons (Dp_mono e d _ h1) (DpAll_mono e ds _ h2)
end
theorem DpAll_len {H : Hp} : ∀ {vs : List V} {ds : List PyData}, DpAll K H vs ds → vs.length = ds.length
  | _, _, .nil => rfl
  | _, _, .cons _ h => by rw [List.length_cons, List.length_cons, DpAll_len h]
theorem DpAll_get {H : Hp} : ∀ {vs : List V} {ds : List PyData} {i : Nat} {d : PyData}, DpAll K H vs ds → ds[i]? = some d → ∃ v, vs[i]? = some v ∧ Dp K H v d
  | _, _, _, _, .nil, e => by simp at e
  | _, _, 0, _, .cons h _, e => by
    simp at e
    subst e
    exact ⟨_, rfl, h⟩
  | _, _, i + 1, d, .cons _ h, e => by
    obtain ⟨v, h1, h2⟩ := DpAll_get (i := i) (d := d) h (by simpa using e)
    exact ⟨v, by simpa using h1, h2⟩
theorem DpAll_get' {H : Hp} : ∀ {vs : List V} {ds : List PyData} {i : Nat} {v : V}, DpAll K H vs ds → vs[i]? = some v → ∃ d, ds[i]? = some d ∧ Dp K H v d
  | _, _, _, _, .nil, e => by simp at e
  | _, _, 0, _, .cons h _, e => by
    simp at e
    subst e
    exact ⟨_, rfl, h⟩
  | _, _, i + 1, v, .cons _ h, e => by
    obtain ⟨d, h1, h2⟩ := DpAll_get' (i := i) (v := v) h (by simpa using e)
    exact ⟨d, by simpa using h1, h2⟩
theorem DpAll_set {H : Hp} {x : V} {d : PyData} (r : Dp K H x d) : ∀ {vs : List V} {ds : List PyData} (i : Nat), DpAll K H vs ds → DpAll K H (vs.set i x) (ds.set i d)
  | _, _, _, .nil => .nil
  | _, _, 0, .cons _ t => .cons r t
  | _, _, i + 1, .cons q t => .cons q (DpAll_set r i t)
theorem DpAll_append {H : Hp} : ∀ {vs ws : List V} {ds es : List PyData}, DpAll K H vs ds → DpAll K H ws es → DpAll K H (vs ++ ws) (ds ++ es)
  | _, _, _, _, .nil, s => s
  | _, _, _, _, .cons r t, s => .cons r (DpAll_append t s)
theorem DpAll_take {H : Hp} : ∀ {vs : List V} {ds : List PyData} (n : Nat), DpAll K H vs ds → DpAll K H (vs.take n) (ds.take n)
  | _, _, 0, _ => .nil
  | _, _, _ + 1, .nil => .nil
  | _, _, n + 1, .cons r t => .cons r (DpAll_take n t)
theorem DpAll_drop {H : Hp} : ∀ {vs : List V} {ds : List PyData} (n : Nat), DpAll K H vs ds → DpAll K H (vs.drop n) (ds.drop n)
  | _, _, 0, r => r
  | _, _, _ + 1, .nil => .nil
  | _, _, n + 1, .cons _ t => DpAll_drop n t
theorem DpAll_rep {H : Hp} {vs : List V} {ds : List PyData} (h : DpAll K H vs ds) : ∀ k : Nat, DpAll K H (List.replicate k vs).flatten (List.replicate k ds).flatten
  | 0 => .nil
  | k + 1 => by
    rw [List.replicate_succ, List.replicate_succ, List.flatten_cons, List.flatten_cons]
    exact DpAll_append h (DpAll_rep h k)
theorem Dp_seq {H : Hp} {v : V} {xs : List PyData} (h : Dp K H v (.list xs)) : ∃ a vs, v = .ref a ∧ SqL K H a vs ∧ DpAll K H vs xs := by
  cases h with
  | lst hs ha => exact ⟨_, _, rfl, hs, ha⟩
theorem Dp_tup {H : Hp} {v : V} {xs : List PyData} (h : Dp K H v (.tuple xs)) : ∃ a vs, v = .ref a ∧ SqT K H a vs ∧ DpAll K H vs xs := by
  cases h with
  | tup hs ha => exact ⟨_, _, rfl, hs, ha⟩
theorem Dp_int {H : Hp} {v : V} {i : Int} (h : Dp K H v (.int i)) : v = .int i := by cases h; rfl
theorem Dp_bool {H : Hp} {v : V} {b : Bool} (h : Dp K H v (.bool b)) : v = .bl b := by cases h; rfl
theorem Dp_str {H : Hp} {v : V} {x : Str} (h : Dp K H v (.str x)) : v = .str x := by cases h; rfl
theorem Dp_none {H : Hp} {v : V} (h : Dp K H v .none) : v = .non := by cases h; rfl
/-! ### what is hidden -/
open Classical in
/-- the heap without the objects that somebody owns -/
noncomputable def hide (H : Hp) (O : Addr → Prop) : Hp := fun a => if O a then none else H a
theorem hide_eq {H : Hp} {O : Addr → Prop} {a : Addr} {o : HO} : hide H O a = some o ↔ ¬ O a ∧ H a = some o := by
  unfold hide
  by_cases h : O a
  · simp [h]
  · simp [h]
theorem hide_same {H H' : Hp} {O O' : Addr → Prop} (e : Same H H') (h : ∀ a o, H a = some o → O' a → O a) : Same (hide H O) (hide H' O') := fun a o q => by
  obtain ⟨n, q⟩ := hide_eq.mp q
  exact hide_eq.mpr ⟨fun z => n (h a o q z), e a o q⟩
theorem hide_sub {H : Hp} {O : Addr → Prop} : Same (hide H O) H := fun _ _ q => (hide_eq.mp q).2
/-- rows: own lists, one behind the other -/
def RowsR (K : PySem.W.Frag) (H : Hp) (O : Addr → Prop) : List Addr → List (List D) → Prop
  | [], [] => True
  | a :: as, xs :: xss => (∃ vs, H a = some (.lst vs) ∧ DpAll K (hide H O) vs xs) ∧ RowsR K H O as xss
  | _, _ => False
/-- a cell's value v; os: the objects that are the cell's own; O: all that somebody owns -/
def CellR (K : PySem.W.Frag) (H : Hp) (O : Addr → Prop) (os : List Addr) : Cell → V → Prop
  | .un, _ => False
  | .d x, v => os = [] ∧ Dp K (hide H O) v x
  | .own xs, v => ∃ a vs, v = .ref a ∧ os = [a] ∧ H a = some (.lst vs) ∧ DpAll K (hide H O) vs xs
  | .own2 xss, v => ∃ a as, v = .ref a ∧ os = a :: as ∧ H a = some (.lst (as.map V.ref)) ∧ RowsR K H O as xss
theorem RowsR_mono {H H' : Hp} {O O' : Addr → Prop} (s : Same H H') (h : ∀ a o, H a = some o → O' a → O a) : ∀ {as : List Addr} {xss : List (List D)}, RowsR K H O as xss → RowsR K H' O' as xss
  | [], [], _ => trivial
  | a :: as, xs :: xss, ⟨⟨vs, e, q⟩, r⟩ => ⟨⟨vs, s _ _ e, DpAll_mono (hide_same s h) _ _ q⟩, RowsR_mono s h r⟩
  | [], _ :: _, r => r.elim
  | _ :: _, [], r => r.elim
theorem CellR_mono {H H' : Hp} {O O' : Addr → Prop} {os : List Addr} {c : Cell} {v : V} (s : Same H H') (h : ∀ a o, H a = some o → O' a → O a) (r : CellR K H O os c v) : CellR K H' O' os c v := by
  cases c with
  | un => exact r
  | d x => exact ⟨r.1, Dp_mono (hide_same s h) _ _ r.2⟩
  | own xs =>
    obtain ⟨a, vs, e1, e2, e3, q⟩ := r
    exact ⟨a, vs, e1, e2, s _ _ e3, DpAll_mono (hide_same s h) _ _ q⟩
  | own2 xss =>
    obtain ⟨a, as, e1, e2, e3, q⟩ := r
    exact ⟨a, as, e1, e2, s _ _ e3, RowsR_mono s h q⟩
theorem RowsR_len {H : Hp} {O : Addr → Prop} : ∀ {as : List Addr} {xss : List (List D)}, RowsR K H O as xss → as.length = xss.length
  | [], [], _ => rfl
  | a :: as, xs :: xss, ⟨_, r⟩ => by rw [List.length_cons, List.length_cons, RowsR_len r]
  | [], _ :: _, r => r.elim
  | _ :: _, [], r => r.elim
theorem RowsR_get {H : Hp} {O : Addr → Prop} : ∀ {as : List Addr} {xss : List (List D)} {i : Nat} {xs : List D}, RowsR K H O as xss → xss[i]? = some xs → ∃ a vs, as[i]? = some a ∧ H a = some (.lst vs) ∧ DpAll K (hide H O) vs xs
  | [], [], _, _, _, e => by simp at e
  | a :: as, xs :: xss, 0, ys, ⟨⟨vs, e1, q⟩, r⟩, e => by
    simp at e
    subst e
    exact ⟨a, vs, rfl, e1, q⟩
  | a :: as, xs :: xss, i + 1, ys, ⟨_, r⟩, e => by
    obtain ⟨b, vs, e1, e2, e3⟩ := RowsR_get (i := i) (xs := ys) r (by simpa using e)
    exact ⟨b, vs, by simpa using e1, e2, e3⟩
  | [], _ :: _, _, _, r, _ => r.elim
  | _ :: _, [], _, _, r, _ => r.elim
/-- as data that is read, in the whole heap -/
theorem RowsR_view {H : Hp} {O : Addr → Prop} : ∀ {as : List Addr} {xss : List (List D)}, RowsR K H O as xss → DpAll K H (as.map V.ref) (xss.map PyData.list)
  | [], [], _ => .nil
  | a :: as, xs :: xss, ⟨⟨vs, e1, q⟩, r⟩ => .cons (.lst (SqL.of e1) (DpAll_mono hide_sub _ _ q)) (RowsR_view r)
  | [], _ :: _, r => r.elim
  | _ :: _, [], r => r.elim
theorem CellR_view {H : Hp} {O : Addr → Prop} {os : List Addr} {c : Cell} {v : V} {x : D} (r : CellR K H O os c v) (e : c.view = some x) : Dp K H v x := by
  cases c with
  | un => cases e
  | d y =>
    cases e
    exact Dp_mono hide_sub _ _ r.2
  | own xs =>
    cases e
    obtain ⟨a, vs, rfl, _, e3, q⟩ := r
    exact .lst (SqL.of e3) (DpAll_mono hide_sub _ _ q)
  | own2 xss =>
    cases e
    obtain ⟨a, as, rfl, _, e3, q⟩ := r
    exact .lst (SqL.of e3) (RowsR_view q)
/-- the items of a list or a tuple -/
theorem CellR_items {H : Hp} {O : Addr → Prop} {os : List Addr} {c : Cell} {v : V} {xs : List D} (r : CellR K H O os c v) (e : c.items = some xs) : ∃ a vs, v = .ref a ∧ (SqL K H a vs ∨ SqT K H a vs) ∧ DpAll K (hide H O) vs xs := by
  cases c with
  | un => cases e
  | d y =>
    cases y with
    | list ys =>
      cases e
      obtain ⟨a, vs, e1, e2, e3⟩ := Dp_seq r.2
      exact ⟨a, vs, e1, .inl (SqL_mono hide_sub e2), e3⟩
    | tuple ys =>
      cases e
      obtain ⟨a, vs, e1, e2, e3⟩ := Dp_tup r.2
      exact ⟨a, vs, e1, .inr (SqT_mono hide_sub e2), e3⟩
    | _ => cases e
  | own ys =>
    cases e
    obtain ⟨a, vs, rfl, _, e3, q⟩ := r
    exact ⟨a, vs, rfl, .inl (SqL.of e3), q⟩
  | own2 xss => cases e
/-! ### the frame's cells -/
/-- all that is owned: by others (O0), by the slots -/
def tO (O0 : Addr → Prop) (own : Nat → List Addr) : Addr → Prop := fun a => O0 a ∨ ∃ i, a ∈ own i
/-- what slot i holds, told by c -/
def SlotR (K : PySem.W.Frag) (H : Hp) (O : Addr → Prop) (os : List Addr) (c : Cell) (x : Option (Option V)) : Prop :=
  match c with
  | .un => True
  | c => ∃ v, x = some (some v) ∧ CellR K H O os c v
structure EnvOk (K : PySem.W.Frag) (H0 H : Hp) (O0 : Addr → Prop) (own : Nat → List Addr) (σ : L2.St) (env : Env) : Prop where
  same : Same H0 H
  len : σ.length = env.length
  cell : ∀ i c, env[i]? = some c → SlotR K H (tO O0 own) (own i) c σ[i]?
  th : ∀ i a, a ∈ own i → ∃ o, H a = some o
  nd : ∀ i, (own i).Nodup
  dj : ∀ i j a, i ≠ j → a ∈ own i → a ∉ own j
  fresh : ∀ i a, a ∈ own i → H0 a = none
  o0 : ∀ a, O0 a → ∃ o, H0 a = some o
theorem SlotR_mono {H H' : Hp} {O O' : Addr → Prop} {os : List Addr} {c : Cell} {x : Option (Option V)} (s : Same H H') (h : ∀ a o, H a = some o → O' a → O a) (r : SlotR K H O os c x) : SlotR K H' O' os c x := by
  cases c with
  | un => exact r
  | d _ =>
    obtain ⟨v, e, q⟩ := r
    exact ⟨v, e, CellR_mono s h q⟩
  | own _ =>
    obtain ⟨v, e, q⟩ := r
    exact ⟨v, e, CellR_mono s h q⟩
  | own2 _ =>
    obtain ⟨v, e, q⟩ := r
    exact ⟨v, e, CellR_mono s h q⟩
section
variable {H0 H H' : Hp} {O0 : Addr → Prop} {own : Nat → List Addr} {σ : L2.St} {env : Env}
theorem EnvOk.mono (E : EnvOk K H0 H O0 own σ env) (s : Same H H') : EnvOk K H0 H' O0 own σ env :=
  ⟨E.same.trans s, E.len, fun i c e => SlotR_mono s (fun _ _ _ z => z) (E.cell i c e), fun i a ha => let ⟨o, e⟩ := E.th i a ha; ⟨o, s _ _ e⟩, E.nd, E.dj, E.fresh, E.o0⟩
/-- a slot that holds something -/
theorem EnvOk.get (E : EnvOk K H0 H O0 own σ env) {i : Nat} {c : Cell} (e : env[i]? = some c) (n : c ≠ .un) : ∃ v, σ[i]? = some (some v) ∧ CellR K H (tO O0 own) (own i) c v := by
  have r := E.cell i c e
  cases c with
  | un => exact absurd rfl n
  | d _ => exact r
  | own _ => exact r
  | own2 _ => exact r
theorem RowsR_there {H : Hp} {O : Addr → Prop} : ∀ {as : List Addr} {xss : List (List D)}, RowsR K H O as xss → ∀ b ∈ as, ∃ o, H b = some o
  | [], [], _, b, hb => by cases hb
  | a :: as, xs :: xss, ⟨⟨vs, e, _⟩, r⟩, b, hb => by
    cases hb with
    | head => exact ⟨_, e⟩
    | tail _ hb => exact RowsR_there r b hb
  | [], _ :: _, r, _, _ => r.elim
  | _ :: _, [], r, _, _ => r.elim
theorem CellR_there {H : Hp} {O : Addr → Prop} {os : List Addr} {c : Cell} {v : V} (r : CellR K H O os c v) : ∀ b ∈ os, ∃ o, H b = some o := fun b hb => by
  cases c with
  | un => exact r.elim
  | d x =>
    rw [r.1] at hb
    cases hb
  | own xs =>
    obtain ⟨a, vs, e1, e2, e3, q⟩ := r
    rw [e2] at hb
    cases hb with
    | head => exact ⟨_, e3⟩
    | tail _ hb => cases hb
  | own2 xss =>
    obtain ⟨a, as, e1, e2, e3, q⟩ := r
    rw [e2] at hb
    cases hb with
    | head => exact ⟨_, e3⟩
    | tail _ hb => exact RowsR_there q b hb
theorem EnvOk.there (E : EnvOk K H0 H O0 own σ env) {i : Nat} {a : Addr} (h : a ∈ own i) : ∃ o, H a = some o := E.th i a h
theorem EnvOk.thereO (E : EnvOk K H0 H O0 own σ env) : ∀ a, tO O0 own a → ∃ o, H a = some o := fun a h => by
  rcases h with h | ⟨i, h⟩
  · obtain ⟨o, e⟩ := E.o0 a h
    exact ⟨o, E.same _ _ e⟩
  · exact E.there h
def ownSet (own : Nat → List Addr) (i : Nat) (os : List Addr) : Nat → List Addr := fun j => if j = i then os else own j
/-- slot i gets a new cell; what it owned is nobody's -/
theorem EnvOk.set (E : EnvOk K H0 H O0 own σ env) {i : Nat} {os : List Addr} {c : Cell} {x : Option V} (hi : i < env.length) (hs : Same H0 H') (s : ∀ a o, H a = some o → ¬ tO O0 own a → H' a = some o)
    (so : ∀ j a o, j ≠ i → a ∈ own j → H a = some o → H' a = some o)
    (te : ∀ a ∈ os, ∃ o, H' a = some o) (f0 : ∀ a ∈ os, H0 a = none) (fo : ∀ a ∈ os, H a = none ∨ a ∈ own i) (nd : os.Nodup) (r : SlotR K H' (tO O0 (ownSet own i os)) os c (some x)) :
    EnvOk K H0 H' O0 (ownSet own i os) (σ.set i x) (env.set i c) := by
  have big : ∀ a o, H a = some o → tO O0 (ownSet own i os) a → tO O0 own a := fun a o e z => by
    rcases z with z | ⟨j, z⟩
    · exact .inl z
    · unfold ownSet at z
      by_cases hj : j = i
      · rw [if_pos hj] at z
        rcases fo a z with q | q
        · rw [e] at q; cases q
        · exact .inr ⟨i, q⟩
      · rw [if_neg hj] at z
        exact .inr ⟨j, z⟩
  have hs' : Same (hide H (tO O0 own)) (hide H' (tO O0 (ownSet own i os))) := fun a o q => by
    obtain ⟨n, q⟩ := hide_eq.mp q
    exact hide_eq.mpr ⟨fun z => n (big a o q z), s a o q n⟩
  have rows : ∀ (as : List Addr) (xss : List (List D)), (∀ b ∈ as, ∀ o, H b = some o → H' b = some o) → RowsR K H (tO O0 own) as xss → RowsR K H' (tO O0 (ownSet own i os)) as xss := by
    intro as
    induction as with
    | nil =>
      intro xss _ q
      cases xss with
      | nil => trivial
      | cons _ _ => exact q.elim
    | cons b as ih =>
      intro xss k q
      cases xss with
      | nil => exact q.elim
      | cons xs xss =>
        obtain ⟨⟨vs, e, q1⟩, q2⟩ := q
        exact ⟨⟨vs, k b List.mem_cons_self _ e, DpAll_mono hs' _ _ q1⟩, ih xss (fun b' hb => k b' (List.mem_cons_of_mem _ hb)) q2⟩
  refine ⟨hs, by rw [List.length_set, List.length_set]; exact E.len, fun j d e => ?_, fun j a e => ?_, fun j => ?_, fun j k a hjk ha hb => ?_, fun j a ha => ?_, E.o0⟩
  · by_cases hj : j = i
    · subst hj
      rw [List.getElem?_set_self hi] at e
      cases e
      rw [List.getElem?_set_self (by rw [E.len]; exact hi)]
      have ee : ownSet own j os j = os := if_pos rfl
      rw [ee]
      exact r
    · rw [List.getElem?_set_ne (Ne.symm hj)] at e ⊢
      have ee : ownSet own i os j = own j := if_neg hj
      rw [ee]
      have q := E.cell j d e
      cases d with
      | un => exact q
      | d x =>
        obtain ⟨v, e1, e2, e3⟩ := q
        exact ⟨v, e1, e2, Dp_mono hs' _ _ e3⟩
      | own xs =>
        obtain ⟨v, e1, a, vs, e2, e3, e4, e5⟩ := q
        exact ⟨v, e1, a, vs, e2, e3, so j a _ hj (by rw [e3]; exact List.mem_cons_self) e4, DpAll_mono hs' _ _ e5⟩
      | own2 xss =>
        obtain ⟨v, e1, a, as, e2, e3, e4, e5⟩ := q
        exact ⟨v, e1, a, as, e2, e3, so j a _ hj (by rw [e3]; exact List.mem_cons_self) e4, rows _ _ (fun b hb o e6 => so j b o hj (by rw [e3]; exact List.mem_cons_of_mem _ hb) e6) e5⟩
  · unfold ownSet at e
    by_cases hj : j = i
    · rw [if_pos hj] at e
      exact te a e
    · rw [if_neg hj] at e
      obtain ⟨o, q⟩ := E.th j a e
      exact ⟨o, so j a o hj e q⟩
  · unfold ownSet
    by_cases hj : j = i
    · rw [if_pos hj]; exact nd
    · rw [if_neg hj]; exact E.nd j
  · unfold ownSet at ha hb
    by_cases hj : j = i
    · rw [if_pos hj] at ha
      have hk : k ≠ i := fun z => hjk (hj.trans z.symm)
      rw [if_neg hk] at hb
      rcases fo a ha with q | q
      · obtain ⟨o, e⟩ := E.there hb
        rw [e] at q; cases q
      · exact E.dj i k a (Ne.symm hk) q hb
    · rw [if_neg hj] at ha
      by_cases hk : k = i
      · rw [if_pos hk] at hb
        rcases fo a hb with q | q
        · obtain ⟨o, e⟩ := E.there ha
          rw [e] at q; cases q
        · exact E.dj i j a (Ne.symm hj) q ha
      · rw [if_neg hk] at hb
        exact E.dj j k a hjk ha hb
  · unfold ownSet at ha
    by_cases hj : j = i
    · rw [if_pos hj] at ha
      exact f0 a ha
    · rw [if_neg hj] at ha
      exact E.fresh j a ha
/-- what everybody may read is kept -/
theorem hide_set {i : Nat} {os : List Addr} (s : ∀ a o, H a = some o → ¬ tO O0 own a → H' a = some o) (fo : ∀ a ∈ os, H a = none ∨ a ∈ own i) : Same (hide H (tO O0 own)) (hide H' (tO O0 (ownSet own i os))) := fun a o q => by
  obtain ⟨n, q⟩ := hide_eq.mp q
  refine hide_eq.mpr ⟨fun z => n ?_, s a o q n⟩
  rcases z with z | ⟨j, z⟩
  · exact .inl z
  · unfold ownSet at z
    by_cases hj : j = i
    · rw [if_pos hj] at z
      rcases fo a z with w | w
      · rw [q] at w; cases w
      · exact .inr ⟨i, w⟩
    · rw [if_neg hj] at z
      exact .inr ⟨j, z⟩
end
end DL
/-! ## DL, part 3: expressions -/
namespace DL
open PySem PySem.Spec PyProof.Rows L2
/-- a cell that is looked at -/
def PeekR (K : PySem.W.Frag) (H : Hp) (O : Addr → Prop) (c : Cell) (v : V) : Prop := ∃ os, CellR K H O os c v
theorem PeekR_mono {K : PySem.W.Frag} {H H' : Hp} {O O' : Addr → Prop} {c : Cell} {v : V} (s : Same H H') (h : ∀ a o, H a = some o → O' a → O a) (r : PeekR K H O c v) : PeekR K H' O' c v :=
  let ⟨os, q⟩ := r; ⟨os, CellR_mono s h q⟩
/-- the fields of an exception -/
def FldsR (K : PySem.W.Frag) (H : Hp) : List (Str × V) → List (Str × D) → Prop
  | [], [] => True
  | p :: ps, q :: qs => p.1 = q.1 ∧ Dp K H p.2 q.2 ∧ FldsR K H ps qs
  | _, _ => False
/-- an exception: of the class that the module's name k holds; its fields -/
def ExcR (K : PySem.W.Frag) (mg : Str → Option Value) (H : Hp) (cls : Value) (d : Option Addr) (k : Str) (fs : List (Str × D)) : Prop :=
  (∃ C, mg k = some (.ref C) ∧ cls = .ref C) ∧ ((fs = [] ∧ d = none) ∨ ∃ dd vs, d = some dd ∧ H dd = some (.xd vs) ∧ FldsR K H vs fs)
theorem FldsR_mono {K : PySem.W.Frag} {H H' : Hp} (s : Same H H') : ∀ {vs : List (Str × V)} {fs : List (Str × D)}, FldsR K H vs fs → FldsR K H' vs fs
  | [], [], _ => trivial
  | _ :: _, _ :: _, ⟨e, q, r⟩ => ⟨e, Dp_mono s _ _ q, FldsR_mono s r⟩
  | [], _ :: _, r => r.elim
  | _ :: _, [], r => r.elim
theorem ExcR_mono {K : PySem.W.Frag} {mg : Str → Option Value} {H H' : Hp} (s : Same H H') {cls : Value} {d : Option Addr} {k : Str} {fs : List (Str × D)} (r : ExcR K mg H cls d k fs) : ExcR K mg H' cls d k fs := by
  obtain ⟨h1, h2⟩ := r
  refine ⟨h1, ?_⟩
  rcases h2 with h2 | ⟨dd, vs, e1, e2, e3⟩
  · exact .inl h2
  · exact .inr ⟨dd, vs, e1, s _ _ e2, FldsR_mono s e3⟩
/-- what is handed on of a result -/
def Hand (K : PySem.W.Frag) (mg : Str → Option Value) (W : WX) (O : Addr → Prop) (H : Hp) (σ : L2.St) (r : R Cell) (Q : VK) : Prop :=
  match r with
  | .no => False
  | .ok c => ∀ v H' os, Same H H' → (∀ a ∈ os, H a = none) → os.Nodup → CellR K H' (fun a => O a ∨ a ∈ os) os c v → Q v H'
  | .ex k fs => ∀ H' cls d, Same H H' → ExcR K mg (hide H' O) cls d k fs → W cls d σ H'
/-- .. that is looked at -/
def HandP (K : PySem.W.Frag) (mg : Str → Option Value) (W : WX) (O : Addr → Prop) (H : Hp) (σ : L2.St) (r : R Cell) (Q : VK) : Prop :=
  match r with
  | .no => False
  | .ok c => ∀ v H', Same H H' → PeekR K H' O c v → Q v H'
  | .ex k fs => ∀ H' cls d, Same H H' → ExcR K mg (hide H' O) cls d k fs → W cls d σ H'
theorem Hand.mono {K : PySem.W.Frag} {mg : Str → Option Value} {W : WX} {O : Addr → Prop} {H H1 : Hp} {σ : L2.St} {r : R Cell} {Q : VK} (s : Same H H1) (h : Hand K mg W O H σ r Q) : Hand K mg W O H1 σ r Q := by
  cases r with
  | no => exact h
  | ok c => exact fun v H' os s' f nd q => h v H' os (s.trans s') (fun a ha => s.free (f a ha)) nd q
  | ex k fs => exact fun H' cls d s' q => h H' cls d (s.trans s') q
theorem HandP.mono {K : PySem.W.Frag} {mg : Str → Option Value} {W : WX} {O : Addr → Prop} {H H1 : Hp} {σ : L2.St} {r : R Cell} {Q : VK} (s : Same H H1) (h : HandP K mg W O H σ r Q) : HandP K mg W O H1 σ r Q := by
  cases r with
  | no => exact h
  | ok c => exact fun v H' s' q => h v H' (s.trans s') q
  | ex k fs => exact fun H' cls d s' q => h H' cls d (s.trans s') q
/-- a value that needs no place -/
theorem Hand.dat {K : PySem.W.Frag} {mg : Str → Option Value} {W : WX} {O : Addr → Prop} {H : Hp} {σ : L2.St} {x : D} {v : V} {Q : VK} (h : Hand K mg W O H σ (.ok (.d x)) Q) (q : Dp K (hide H O) v x) : Q v H := by
  refine h v H [] (Same.refl H) (fun a ha => by cases ha) List.nodup_nil ⟨rfl, ?_⟩
  exact Dp_mono (hide_same (Same.refl H) fun a o _ z => by
    rcases z with z | z
    · exact z
    · cases z) _ _ q
theorem CellR_O {K : PySem.W.Frag} {H : Hp} {O : Addr → Prop} {os : List Addr} {c : Cell} {v : V} (h : CellR K H (fun a => O a ∨ a ∈ os) os c v) : PeekR K H O c v := ⟨os, CellR_mono (Same.refl H) (fun _ _ _ z => .inl z) h⟩
/-- the frame's reading of an expression -/
def teD (K : PySem.W.Frag) (mg : Str → Option Value) (W : WX) (f : Env → R Cell) : TE := fun σ H Q => ∃ H0 O0 own env, EnvOk K H0 H O0 own σ env ∧ Hand K mg W (tO O0 own) H σ (f env) Q
def tpD (K : PySem.W.Frag) (mg : Str → Option Value) (W : WX) (f : Env → R Cell) : TE := fun σ H Q => ∃ H0 O0 own env, EnvOk K H0 H O0 own σ env ∧ HandP K mg W (tO O0 own) H σ (f env) Q
/-- a test -/
def HandT (K : PySem.W.Frag) (mg : Str → Option Value) (W : WX) (O : Addr → Prop) (H : Hp) (σ : L2.St) (r : R Bool) (Q : Bool → Hp → Prop) : Prop :=
  match r with
  | .no => False
  | .ok b => ∀ H', Same H H' → Q b H'
  | .ex k fs => ∀ H' cls d, Same H H' → ExcR K mg (hide H' O) cls d k fs → W cls d σ H'
theorem HandT.mono {K : PySem.W.Frag} {mg : Str → Option Value} {W : WX} {O : Addr → Prop} {H H1 : Hp} {σ : L2.St} {r : R Bool} {Q : Bool → Hp → Prop} (s : Same H H1) (h : HandT K mg W O H σ r Q) : HandT K mg W O H1 σ r Q := by
  cases r with
  | no => exact h
  | ok c => exact fun H' s' => h H' (s.trans s')
  | ex k fs => exact fun H' cls d s' q => h H' cls d (s.trans s') q
def ttD (K : PySem.W.Frag) (mg : Str → Option Value) (W : WX) (f : Env → R Bool) : TT := fun σ H Q => ∃ H0 O0 own env, EnvOk K H0 H O0 own σ env ∧ HandT K mg W (tO O0 own) H σ (f env) Q
/-- arguments: data -/
def HandA (K : PySem.W.Frag) (mg : Str → Option Value) (W : WX) (O : Addr → Prop) (H : Hp) (σ : L2.St) (r : R (List D)) (Q : List V → Hp → Prop) : Prop :=
  match r with
  | .no => False
  | .ok ds => ∀ vs H', Same H H' → DpAll K (hide H' O) vs ds → Q vs H'
  | .ex k fs => ∀ H' cls d, Same H H' → ExcR K mg (hide H' O) cls d k fs → W cls d σ H'
theorem HandA.mono {K : PySem.W.Frag} {mg : Str → Option Value} {W : WX} {O : Addr → Prop} {H H1 : Hp} {σ : L2.St} {r : R (List D)} {Q : List V → Hp → Prop} (s : Same H H1) (h : HandA K mg W O H σ r Q) : HandA K mg W O H1 σ r Q := by
  cases r with
  | no => exact h
  | ok c => exact fun v H' s' q => h v H' (s.trans s') q
  | ex k fs => exact fun H' cls d s' q => h H' cls d (s.trans s') q
def taD (K : PySem.W.Frag) (mg : Str → Option Value) (W : WX) (f : Env → R (List D)) : TA := fun σ H Q => ∃ H0 O0 own env, EnvOk K H0 H O0 own σ env ∧ HandA K mg W (tO O0 own) H σ (f env) Q
/-- arguments that are looked at -/
def PeekAll (K : PySem.W.Frag) (H : Hp) (O : Addr → Prop) : List Cell → List V → Prop
  | [], [] => True
  | c :: cs, v :: vs => PeekR K H O c v ∧ PeekAll K H O cs vs
  | _, _ => False
theorem PeekAll_mono {K : PySem.W.Frag} {H H' : Hp} {O O' : Addr → Prop} (s : Same H H') (h : ∀ a o, H a = some o → O' a → O a) : ∀ {cs : List Cell} {vs : List V}, PeekAll K H O cs vs → PeekAll K H' O' cs vs
  | [], [], _ => trivial
  | _ :: _, _ :: _, ⟨q, r⟩ => ⟨PeekR_mono s h q, PeekAll_mono s h r⟩
  | [], _ :: _, r => r.elim
  | _ :: _, [], r => r.elim
def HandC (K : PySem.W.Frag) (mg : Str → Option Value) (W : WX) (O : Addr → Prop) (H : Hp) (σ : L2.St) (r : R (List Cell)) (Q : List V → Hp → Prop) : Prop :=
  match r with
  | .no => False
  | .ok ds => ∀ vs H', Same H H' → PeekAll K H' O ds vs → Q vs H'
  | .ex k fs => ∀ H' cls d, Same H H' → ExcR K mg (hide H' O) cls d k fs → W cls d σ H'
def tcD (K : PySem.W.Frag) (mg : Str → Option Value) (W : WX) (f : Env → R (List Cell)) : TA := fun σ H Q => ∃ H0 O0 own env, EnvOk K H0 H O0 own σ env ∧ HandC K mg W (tO O0 own) H σ (f env) Q
/-! ### weaker readings -/
theorem PE.imp {X : Cx} {e : Expr} {t t' : TE} (h : PE X e t) (i : ∀ σ H Q, t' σ H Q → t σ H Q) : PE X e t' := ⟨fun pins s σ H Q I q => h.run pins s σ H Q I (i _ _ _ q)⟩
theorem PT.imp {X : Cx} {e : Expr} {t t' : TT} (h : PT X e t) (i : ∀ σ H Q, t' σ H Q → t σ H Q) : PT X e t' := ⟨fun pins s σ H Q I q => h.run pins s σ H Q I (i _ _ _ q)⟩
theorem PW.imp {X : Cx} {e : Expr} {t t' : TT} (h : PW X e t) (i : ∀ σ H Q, t' σ H Q → t σ H Q) : PW X e t' := ⟨fun wh pins s σ H Q I q => h.run wh pins s σ H Q I (i _ _ _ q)⟩
theorem PA.imp {X : Cx} {e : List Expr} {t t' : TA} (h : PA X e t) (i : ∀ σ H Q, t' σ H Q → t σ H Q) : PA X e t' := ⟨fun pos pins s σ H Q I q => h.run pos pins s σ H Q I (i _ _ _ q)⟩
theorem PS.imp {X : Cx} {e : Stmt} {t t' : TS} (h : PS X e t) (i : ∀ D σ H, t' D σ H → t D σ H) : PS X e t' := ⟨fun pins s σ H D I q => h.run pins s σ H D I (i _ _ _ q)⟩
theorem PSs.imp {X : Cx} {e : List Stmt} {t t' : TS} (h : PSs X e t) (i : ∀ D σ H, t' D σ H → t D σ H) : PSs X e t' := ⟨fun pins s σ H D I q => h.run pins s σ H D I (i _ _ _ q)⟩
section
variable {X : Cx} {W : WX} {e a b c : Expr} {fa fb fc : Env → R Cell} {pos : Pos}
theorem look_te {K : PySem.W.Frag} {mg : Str → Option Value} {f : Env → R Cell} : ∀ σ H Q, tpD K mg W f σ H Q → teD K mg W f σ H Q := fun σ H Q ⟨H0, O0, own, env, E, h⟩ => by
  refine ⟨H0, O0, own, env, E, ?_⟩
  cases q : f env with
  | no => rw [q] at h; exact h
  | ok c =>
    rw [q] at h
    exact fun v H' os s _ _ r => h v H' s (CellR_O r)
  | ex k fs => rw [q] at h; exact h
/-- a value may be looked at -/
theorem dp_of (h : PE X e (teD X.K X.mg W fa)) : PE X e (tpD X.K X.mg W fa) := PE.imp h look_te
/-- what is looked at, if it is data, is a value -/
theorem de_of (h : PE X e (tpD X.K X.mg W fa)) : PE X e (teD X.K X.mg W fun en => (fa en).bind Cell.val) := PE.imp h fun σ H Q ⟨H0, O0, own, env, E, h⟩ => by
  refine ⟨H0, O0, own, env, E, ?_⟩
  cases q : fa env with
  | no =>
    simp only [q, R.bind_no] at h
    exact h
  | ok c =>
    simp only [q, R.bind_ok] at h
    intro v H' s r
    obtain ⟨os, r⟩ := r
    cases c with
    | d x =>
      exact Hand.dat (Hand.mono s h) r.2
    | un => exact h.elim
    | own _ => exact h.elim
    | own2 _ => exact h.elim
  | ex k fs =>
    simp only [q, R.bind_ex] at h
    exact h
/-- the name in slot i -/
theorem dp_var (i : Nat) {x : Str} (hN : X.N[i]? = some x := by rfl) (hv : Vis X.env.scope x := by first | exact Or.inl rfl | exact Or.inr (Or.inl rfl) | exact Or.inr (Or.inr rfl)) (hd : (x == ("__debug__" : Str)) = false := by decide)
    (hcd : (x == ("__classdict__" : Str)) = false := by decide) : PE X (.Name x pos) (tpD X.K X.mg W (getC i)) := PE.imp (pe_var hN hv hd hcd) fun σ H Q ⟨H0, O0, own, env, E, h⟩ => by
  unfold getC at h
  cases q : env[i]? with
  | none =>
    simp only [q] at h
    exact h.elim
  | some c =>
    simp only [q] at h
    by_cases n : c = .un
    · subst n
      exact h.elim
    · have h' : HandP X.K X.mg W (tO O0 own) H σ (.ok c) Q := by
        cases c with
        | un => exact absurd rfl n
        | d _ => exact h
        | own _ => exact h
        | own2 _ => exact h
      obtain ⟨v, e1, e2⟩ := E.get q n
      exact ⟨v, e1, h' v H (Same.refl H) ⟨_, e2⟩⟩
theorem de_var (i : Nat) {x : Str} (hN : X.N[i]? = some x := by rfl) (hv : Vis X.env.scope x := by first | exact Or.inl rfl | exact Or.inr (Or.inl rfl) | exact Or.inr (Or.inr rfl)) (hd : (x == ("__debug__" : Str)) = false := by decide)
    (hcd : (x == ("__classdict__" : Str)) = false := by decide) : PE X (.Name x pos) (teD X.K X.mg W (varD i)) := de_of (dp_var i hN hv hd hcd)
theorem de_cst {v : V} {x : D} (h : PE X e (tC v)) (q : ∀ H, Dp X.K H v x) : PE X e (teD X.K X.mg W (cstD x)) := PE.imp h fun σ H Q ⟨H0, O0, own, env, E, h⟩ => Hand.dat (x := x) h (q _)
theorem de_int {i : Int} {j} : PE X (.Constant (.int i) j pos) (teD X.K X.mg W (cstD (.int i))) := de_cst pe_int fun _ => .int i
theorem de_bl {i : Bool} {j} : PE X (.Constant (.bool i) j pos) (teD X.K X.mg W (cstD (.bool i))) := de_cst pe_bl fun _ => .bl i
theorem de_non {j} : PE X (.Constant .none j pos) (teD X.K X.mg W (cstD .none)) := de_cst pe_non fun _ => .non
theorem de_str {x : Str} {j} : PE X (.Constant (.str x) j pos) (teD X.K X.mg W (cstD (.str x))) := de_cst pe_str fun _ => .str x
/-! ### operations on what is looked at -/
def Op1 (K : PySem.W.Frag) (r : V → Hp → VK → Prop) (op : Cell → R Cell) : Prop :=
  ∀ (mg : Str → Option Value) (W : WX) (O : Addr → Prop) (H : Hp) (σ : L2.St) (c : Cell) (v : V) (Q : VK), (∀ a, O a → ∃ o, H a = some o) → PeekR K H O c v → Hand K mg W O H σ (op c) Q → r v H Q
def Op2 (K : PySem.W.Frag) (r : R2) (op : Cell → Cell → R Cell) : Prop :=
  ∀ (mg : Str → Option Value) (W : WX) (O : Addr → Prop) (H : Hp) (σ : L2.St) (c d : Cell) (v u : V) (Q : VK), (∀ a, O a → ∃ o, H a = some o) → PeekR K H O c v → PeekR K H O d u → Hand K mg W O H σ (op c d) Q → r v u H Q
theorem look1 {K : PySem.W.Frag} {mg : Str → Option Value} {r : V → Hp → VK → Prop} {op : Cell → R Cell} (ho : Op1 K r op) : ∀ σ H Q, teD K mg W (fun en => (fa en).bind op) σ H Q → tUn r (tpD K mg W fa) σ H Q := fun σ H Q ⟨H0, O0, own, env, E, h⟩ => by
  refine ⟨H0, O0, own, env, E, ?_⟩
  cases q : fa env with
  | no =>
    simp only [q, R.bind_no] at h
    exact h
  | ok c =>
    simp only [q, R.bind_ok] at h
    exact fun v H' s r => ho mg W _ H' σ c v Q (E.mono s).thereO r (Hand.mono s h)
  | ex k fs =>
    simp only [q, R.bind_ex] at h
    exact h
theorem look2 {K : PySem.W.Frag} {mg : Str → Option Value} {r : R2} {op : Cell → Cell → R Cell} (ho : Op2 K r op) : ∀ σ H Q, teD K mg W (fun en => (fa en).bind fun x => (fb en).bind fun y => op x y) σ H Q → tOp r (tpD K mg W fa) (tpD K mg W fb) σ H Q := fun σ H Q ⟨H0, O0, own, env, E, h⟩ => by
  refine ⟨H0, O0, own, env, E, ?_⟩
  cases q : fa env with
  | no =>
    simp only [q, R.bind_no] at h
    exact h
  | ex k fs =>
    simp only [q, R.bind_ex] at h
    exact h
  | ok c =>
    simp only [q, R.bind_ok] at h
    intro v H1 s1 r1
    refine ⟨H0, O0, own, env, E.mono s1, ?_⟩
    cases q2 : fb env with
    | no =>
      simp only [q2, R.bind_no] at h
      exact h
    | ex k fs =>
      simp only [q2, R.bind_ex] at h
      exact fun H' cls d s' w => h H' cls d (s1.trans s') w
    | ok d =>
      simp only [q2, R.bind_ok] at h
      exact fun u H2 s2 r2 => ho mg W _ H2 σ c d v u Q (E.mono (s1.trans s2)).thereO (PeekR_mono s2 (fun _ _ _ z => z) r1) r2 (Hand.mono (s1.trans s2) h)
theorem de_op {op : Operator} {r : R2} {g : Cell → Cell → R Cell} (hr : OpR X (binaryOp op) r) (ho : Op2 X.K r g) (ha : PE X a (tpD X.K X.mg W fa)) (hb : PE X b (tpD X.K X.mg W fb)) :
    PE X (.BinOp a op b pos) (teD X.K X.mg W fun en => (fa en).bind fun x => (fb en).bind fun y => g x y) := PE.imp (pe_op hr ha hb) (look2 ho)
theorem de_un {op : UnaryOp} {r : V → Hp → VK → Prop} {g : Cell → R Cell} (hr : UnR X (unaryOp op) r) (ho : Op1 X.K r g) (ha : PE X a (tpD X.K X.mg W fa)) :
    PE X (.UnaryOp op a pos) (teD X.K X.mg W fun en => (fa en).bind g) := PE.imp (pe_un hr ha) (look1 ho)
theorem de_cmp {op : CmpOp} {r : R2} {g : Cell → Cell → R Cell} (hr : OpR X (compareOp op) r) (ho : Op2 X.K r g) (ha : PE X a (tpD X.K X.mg W fa)) (hb : PE X b (tpD X.K X.mg W fb)) (hm : behindInMarks op b = false) :
    PE X (.Compare a [op] [b] pos) (teD X.K X.mg W fun en => (fa en).bind fun x => (fb en).bind fun y => g x y) := PE.imp (pe_cmpR hr ha hb hm) (look2 ho)
theorem OpR.or2 {f : Value → Value → Sem Value} {r r' : R2} (h : OpR X f r) (h' : OpR X f r') : OpR X f (fun x y H Q => r x y H Q ∨ r' x y H Q) := fun pins s σ H x y v u Q I rx ry q => by
  rcases q with q | q
  · exact h pins s σ H x y v u Q I rx ry q
  · exact h' pins s σ H x y v u Q I rx ry q
end
/-! ### the operations -/
section
variable {K : PySem.W.Frag}
theorem Peek_int {H : Hp} {O : Addr → Prop} {i : Int} {v : V} (h : PeekR K H O (.d (.int i)) v) : v = .int i := let ⟨_, _, q⟩ := h; Dp_int q
theorem Peek_d {H : Hp} {O : Addr → Prop} {x : D} {v : V} (h : PeekR K H O (.d x) v) : Dp K (hide H O) v x := let ⟨_, _, q⟩ := h; q
theorem Peek_own {H : Hp} {O : Addr → Prop} {xs : List D} {v : V} (h : PeekR K H O (.own xs) v) : ∃ a vs, v = .ref a ∧ H a = some (.lst vs) ∧ DpAll K (hide H O) vs xs := let ⟨_, a, vs, e1, _, e2, e3⟩ := h; ⟨a, vs, e1, e2, e3⟩
theorem Peek_view {H : Hp} {O : Addr → Prop} {c : Cell} {v : V} {x : D} (h : PeekR K H O c v) (e : c.view = some x) : Dp K H v x := let ⟨_, q⟩ := h; CellR_view q e
theorem Peek_items {H : Hp} {O : Addr → Prop} {c : Cell} {v : V} {xs : List D} (h : PeekR K H O c v) (e : c.items = some xs) : ∃ a vs, v = .ref a ∧ (SqL K H a vs ∨ SqT K H a vs) ∧ DpAll K (hide H O) vs xs := let ⟨_, q⟩ := h; CellR_items q e
theorem op2_intI {f : Int → Int → Int} {g : Int → Int → V} (e : ∀ i j, g i j = .int (f i j)) : Op2 K (rI0 g) (intI f) := fun mg W O H σ c d v u Q hO h1 h2 h => by
  unfold intI at h
  split at h
  · rename_i i j
    have e1 := Peek_int h1
    have e2 := Peek_int h2
    subst e1 e2
    exact ⟨i, j, rfl, rfl, by rw [e]; exact h.dat (.int _)⟩
  · exact h.elim
theorem op2_intB {f : Int → Int → Bool} : Op2 K (rI0 fun i j => .bl (f i j)) (intB f) := fun mg W O H σ c d v u Q hO h1 h2 h => by
  unfold intB at h
  split at h
  · rename_i i j
    have e1 := Peek_int h1
    have e2 := Peek_int h2
    subst e1 e2
    exact ⟨i, j, rfl, rfl, h.dat (.bl _)⟩
  · exact h.elim
theorem op2_div : Op2 K (rI CDiv fun i j => .int (i / j)) divD := fun mg W O H σ c d v u Q hO h1 h2 h => by
  unfold divD at h
  split at h
  · rename_i i j
    have e1 := Peek_int h1
    have e2 := Peek_int h2
    subst e1 e2
    split at h
    · rename_i hc
      exact ⟨i, j, rfl, rfl, hc, h.dat (.int _)⟩
    · exact h.elim
  · exact h.elim
theorem op2_mod : Op2 K (rI (fun _ j => 0 < j) fun i j => .int (i % j)) modD := fun mg W O H σ c d v u Q hO h1 h2 h => by
  unfold modD at h
  split at h
  · rename_i i j
    have e1 := Peek_int h1
    have e2 := Peek_int h2
    subst e1 e2
    split at h
    · rename_i hc
      exact ⟨i, j, rfl, rfl, hc, h.dat (.int _)⟩
    · exact h.elim
  · exact h.elim
theorem op2_pow : Op2 K (rI CPow fun i j => .int (i ^ j.toNat)) powD := fun mg W O H σ c d v u Q hO h1 h2 h => by
  unfold powD at h
  split at h
  · rename_i i j
    have e1 := Peek_int h1
    have e2 := Peek_int h2
    subst e1 e2
    split at h
    · rename_i hc
      exact ⟨i, j, rfl, rfl, hc, h.dat (.int _)⟩
    · exact h.elim
  · exact h.elim
theorem op1_neg : Op1 K (rU fun i => .int (-i)) negD := fun mg W O H σ c v Q hO h1 h => by
  unfold negD at h
  split at h
  · rename_i i
    have e1 := Peek_int h1
    subst e1
    exact ⟨i, rfl, h.dat (.int _)⟩
  · exact h.elim
/-- a new own list -/
theorem Hand.newL {mg : Str → Option Value} {W : WX} {O : Addr → Prop} {H : Hp} {σ : L2.St} {xs : List D} {vs : List V} {Q : VK} (h : Hand K mg W O H σ (.ok (.own xs)) Q) (q : DpAll K (hide H O) vs xs) : ∀ p, H p = none → Q (.ref p) (upd H p (.lst vs)) := fun p hp => by
  have s : Same H (upd H p (.lst vs)) := fun b o e => by rw [upd_ne (ne_of_none e hp)]; exact e
  refine h (.ref p) _ [p] s (fun a ha => ?_) (by simp) ⟨p, vs, rfl, rfl, upd_same, DpAll_mono (fun a o e => ?_) _ _ q⟩
  · rw [List.mem_singleton.mp ha]; exact hp
  · obtain ⟨n, e⟩ := hide_eq.mp e
    refine hide_eq.mpr ⟨fun z => ?_, s a o e⟩
    rcases z with z | z
    · exact n z
    · rw [List.mem_singleton.mp z, hp] at e
      cases e
/-- a new tuple -/
theorem Hand.newT {mg : Str → Option Value} {W : WX} {O : Addr → Prop} {H : Hp} {σ : L2.St} {xs : List D} {vs : List V} {Q : VK} (hO : ∀ a, O a → ∃ o, H a = some o) (h : Hand K mg W O H σ (.ok (.d (.tuple xs))) Q) (q : DpAll K (hide H O) vs xs) : ∀ p, H p = none → Q (.ref p) (upd H p (.tup vs)) := fun p hp => by
  have s : Same H (upd H p (.tup vs)) := fun b o e => by rw [upd_ne (ne_of_none e hp)]; exact e
  have s2 : Same (hide H O) (hide (upd H p (.tup vs)) O) := hide_same s fun _ _ _ z => z
  refine (Hand.mono s h).dat (.tup (SqT.of (hide_eq.mpr ⟨fun z => ?_, upd_same⟩)) (DpAll_mono s2 _ _ q))
  obtain ⟨o, e⟩ := hO p z
  rw [hp] at e
  cases e
end
end DL
/-! ## DL, part 4: more expressions, tests, arguments -/
namespace DL
open PySem PySem.Spec PyProof.Rows L2
section
variable {K : PySem.W.Frag}
theorem op2_add : Op2 K (fun x y H Q => rI0 (fun i j => .int (i + j)) x y H Q ∨ (∃ i j, x = .str i ∧ y = .str j ∧ i.length + j.length ≤ sizeLine ∧ Q (.str (i ++ j)) H) ∨ rCatA K x y H Q ∨ rCat x y H Q) addD := fun mg W O H σ c d v u Q hO h1 h2 h => by
  have sz := sizeLine_eq
  unfold addD at h
  split at h
  · rename_i i j
    have e1 := Peek_int h1
    have e2 := Peek_int h2
    subst e1 e2
    exact .inl ⟨i, j, rfl, rfl, h.dat (.int _)⟩
  · rename_i s t
    have e1 := Dp_str (Peek_d h1)
    have e2 := Dp_str (Peek_d h2)
    subst e1 e2
    split at h
    · rename_i hl
      exact .inr (.inl ⟨s, t, rfl, rfl, by rw [sz]; exact hl, h.dat (.str _)⟩)
    · exact h.elim
  · rename_i xs ys
    obtain ⟨a, vs, e1, s1, q1⟩ := Dp_tup (Peek_d h1)
    obtain ⟨b, ws, e2, s2, q2⟩ := Dp_tup (Peek_d h2)
    split at h
    · rename_i hl
      have n1 := DpAll_len q1
      have n2 := DpAll_len q2
      refine .inr (.inr (.inl ⟨a, b, vs, ws, e1, e2, SqT_mono hide_sub s1, SqT_mono hide_sub s2, by rw [n1, n2, sz]; exact hl, fun z => ?_, fun _ z => ?_, fun _ _ => h.newT hO (DpAll_append q1 q2)⟩))
      · subst z
        cases q1
        subst e2
        exact h.dat (.tup s2 q2)
      · subst z
        cases q2
        rw [List.append_nil] at h
        subst e1
        exact h.dat (.tup s1 q1)
    · exact h.elim
  · rename_i xs ys
    obtain ⟨a, vs, e1, s1, q1⟩ := Peek_own h1
    obtain ⟨b, ws, e2, s2, q2⟩ := Peek_own h2
    split at h
    · rename_i hl
      have n1 := DpAll_len q1
      have n2 := DpAll_len q2
      exact .inr (.inr (.inr ⟨a, b, vs, ws, e1, e2, s1, s2, by rw [n1, n2, sz]; exact hl, h.newL (DpAll_append q1 q2)⟩))
    · exact h.elim
  · exact h.elim
theorem opr_add {X : Cx} : OpR X (binaryOp .Add) (fun x y H Q => rI0 (fun i j => .int (i + j)) x y H Q ∨ (∃ i j, x = .str i ∧ y = .str j ∧ i.length + j.length ≤ sizeLine ∧ Q (.str (i ++ j)) H) ∨ rCatA X.K x y H Q ∨ rCat x y H Q) :=
  OpR.or2 op_add (OpR.or2 op_add_str (OpR.or2 op_catA op_cat))
theorem op2_mul : Op2 K (fun x y H Q => rI CMul (fun i j => .int (i * j)) x y H Q ∨ rRep x y H Q) mulD := fun mg W O H σ c d v u Q hO h1 h2 h => by
  have sz := sizeLine_eq
  unfold mulD at h
  split at h
  · rename_i i j
    have e1 := Peek_int h1
    have e2 := Peek_int h2
    subst e1 e2
    split at h
    · rename_i hc
      exact .inl ⟨i, j, rfl, rfl, hc, h.dat (.int _)⟩
    · exact h.elim
  · rename_i k _
    have e2 := Peek_int h2
    subst e2
    split at h
    · rename_i xs _
      obtain ⟨a, vs, e1, s1, q1⟩ := Peek_own h1
      split at h
      · rename_i hc
        have n1 := DpAll_len q1
        exact .inr ⟨a, k, vs, e1, rfl, s1, hc.1, hc.2.1, by rw [n1, sz]; exact hc.2.2, h.newL (DpAll_rep q1 _)⟩
      · exact h.elim
    · exact h.elim
  · exact h.elim
theorem opr_mul {X : Cx} : OpR X (binaryOp .Mult) (fun x y H Q => rI CMul (fun i j => .int (i * j)) x y H Q ∨ rRep x y H Q) := OpR.or2 op_mul op_rep
theorem op2_eq : Op2 K (rEqD K) eqD := fun mg W O H σ c d v u Q hO h1 h2 h => by
  unfold eqD at h
  split at h
  · rename_i x y e1 e2
    split at h
    · rename_i hc
      exact ⟨x, y, Peek_view h1 e1, Peek_view h2 e2, hc.1, hc.2, h.dat (.bl _)⟩
    · exact h.elim
  · exact h.elim
theorem op2_ne : Op2 K (rNeD K) neD := fun mg W O H σ c d v u Q hO h1 h2 h => by
  unfold neD at h
  split at h
  · rename_i x y e1 e2
    split at h
    · rename_i hc
      exact ⟨x, y, Peek_view h1 e1, Peek_view h2 e2, hc.1, hc.2, h.dat (.bl _)⟩
    · exact h.elim
  · exact h.elim
theorem Dp_nn {H : Hp} {v : V} {x : D} (h : Dp K H v x) : decide (v = .non) = (match x with | .none => true | _ => false) := by
  cases h <;> simp
def notN (x : D) : Bool := match x with
  | .none => false
  | _ => true
theorem isN_eq {c : Cell} : isNoneD c = (match c with | .un => .no | .d x => .ok (.d (.bool (!notN x))) | _ => .ok (.d (.bool false))) := by
  unfold isNoneD notN
  cases c with
  | d x => cases x <;> rfl
  | _ => rfl
theorem notN_eq {c : Cell} : notNoneD c = (match c with | .un => .no | .d x => .ok (.d (.bool (notN x))) | _ => .ok (.d (.bool true))) := by
  unfold notNoneD notN
  cases c with
  | d x => cases x <;> rfl
  | _ => rfl
theorem Dp_notN {H : Hp} {v : V} {x : D} (h : Dp K H v x) : decide (v = .non) = !notN x := by
  cases h <;> simp [notN]
theorem op1_isN : Op1 K (fun x H Q => Q (.bl (decide (x = .non))) H) isNoneD := fun mg W O H σ c v Q hO h1 h => by
  rw [isN_eq] at h
  cases c with
  | un => exact h.elim
  | d x =>
    rw [Dp_notN (Peek_d h1)]
    exact h.dat (.bl _)
  | own xs =>
    obtain ⟨a, vs, rfl, _, _⟩ := Peek_own h1
    exact h.dat (.bl _)
  | own2 xss =>
    obtain ⟨_, a, as, rfl, _⟩ := h1
    exact h.dat (.bl _)
theorem op1_notN : Op1 K (fun x H Q => Q (.bl (!decide (x = .non))) H) notNoneD := fun mg W O H σ c v Q hO h1 h => by
  rw [notN_eq] at h
  cases c with
  | un => exact h.elim
  | d x =>
    rw [Dp_notN (Peek_d h1), Bool.not_not]
    exact h.dat (.bl _)
  | own xs =>
    obtain ⟨a, vs, rfl, _, _⟩ := Peek_own h1
    exact h.dat (.bl _)
  | own2 xss =>
    obtain ⟨_, a, as, rfl, _⟩ := h1
    exact h.dat (.bl _)
theorem op1_len : Op1 K (fun x H Q => (∃ p ys, [x] = [V.ref p] ∧ (SqL K H p ys ∨ SqT K H p ys) ∧ Q (.int ys.length) H) ∨ (∃ z, [x] = [V.str z] ∧ z.length ≤ sizeLine ∧ Q (.int z.length) H)) lenD := fun mg W O H σ c v Q hO h1 h => by
  have sz := sizeLine_eq
  unfold lenD at h
  split at h
  · rename_i xs
    obtain ⟨a, vs, rfl, s, q⟩ := Dp_seq (Peek_d h1)
    refine .inl ⟨a, vs, rfl, .inl (SqL_mono hide_sub s), ?_⟩
    rw [DpAll_len q]
    exact h.dat (.int _)
  · rename_i xs
    obtain ⟨a, vs, rfl, s, q⟩ := Dp_tup (Peek_d h1)
    refine .inl ⟨a, vs, rfl, .inr (SqT_mono hide_sub s), ?_⟩
    rw [DpAll_len q]
    exact h.dat (.int _)
  · rename_i s
    have e := Dp_str (Peek_d h1)
    subst e
    split at h
    · rename_i hl
      exact .inr ⟨s, rfl, by rw [sz]; exact hl, h.dat (.int _)⟩
    · exact h.elim
  · rename_i xs
    obtain ⟨a, vs, rfl, s, q⟩ := Peek_own h1
    refine .inl ⟨a, vs, rfl, .inl (SqL.of s), ?_⟩
    rw [DpAll_len q]
    exact h.dat (.int _)
  · rename_i xss
    obtain ⟨_, a, as, rfl, _, s, q⟩ := h1
    refine .inl ⟨a, _, rfl, .inl (SqL.of s), ?_⟩
    rw [List.length_map, RowsR_len q]
    exact h.dat (.int _)
  · exact h.elim
theorem op1_list : Op1 K (fun x H Q => ∃ p ys, [x] = [V.ref p] ∧ (SqL K H p ys ∨ SqT K H p ys) ∧ ∀ l, H l = none → Q (.ref l) (upd H l (.lst ys))) listD := fun mg W O H σ c v Q hO h1 h => by
  unfold listD at h
  split at h
  · rename_i xs e
    obtain ⟨a, vs, rfl, s, q⟩ := Peek_items h1 e
    exact ⟨a, vs, rfl, s, h.newL q⟩
  · exact h.elim
theorem op1_tuple : Op1 K (fun x H Q => ∃ p ys, [x] = [V.ref p] ∧ ((SqL K H p ys ∧ ∀ l, H l = none → Q (.ref l) (upd H l (.tup ys))) ∨ (SqT K H p ys ∧ Q (.ref p) H))) tupleD := fun mg W O H σ c v Q hO h1 h => by
  unfold tupleD at h
  cases c with
  | un => exact h.elim
  | own2 _ => exact h.elim
  | own xs =>
    obtain ⟨a, vs, rfl, s, q⟩ := Peek_own h1
    exact ⟨a, vs, rfl, .inl ⟨SqL.of s, h.newT hO q⟩⟩
  | d x =>
    cases x with
    | list xs =>
      obtain ⟨a, vs, rfl, s, q⟩ := Dp_seq (Peek_d h1)
      exact ⟨a, vs, rfl, .inl ⟨SqL_mono hide_sub s, h.newT hO q⟩⟩
    | tuple xs =>
      obtain ⟨a, vs, rfl, s, q⟩ := Dp_tup (Peek_d h1)
      exact ⟨a, vs, rfl, .inr ⟨SqT_mono hide_sub s, h.dat (.tup s q)⟩⟩
    | _ => exact h.elim
theorem op2_max : Op2 K (fun x y H Q => ∃ i j, [x, y] = [V.int i, V.int j] ∧ Q (.int (if j > i then j else i)) H) maxD := fun mg W O H σ c d v u Q hO h1 h2 h => by
  unfold maxD intI at h
  split at h
  · rename_i i j
    have e1 := Peek_int h1
    have e2 := Peek_int h2
    subst e1 e2
    exact ⟨i, j, rfl, h.dat (.int _)⟩
  · exact h.elim
theorem op2_min : Op2 K (fun x y H Q => ∃ i j, [x, y] = [V.int i, V.int j] ∧ Q (.int (if j < i then j else i)) H) minD := fun mg W O H σ c d v u Q hO h1 h2 h => by
  unfold minD intI at h
  split at h
  · rename_i i j
    have e1 := Peek_int h1
    have e2 := Peek_int h2
    subst e1 e2
    exact ⟨i, j, rfl, h.dat (.int _)⟩
  · exact h.elim
/-- isinstance(x, T), T one of the five -/
theorem TyX_sq {H : Hp} {a : Addr} {vs : List V} (h : SqL K H a vs) : TyX K H (.ref a) (.type "list") := by
  rcases h with (h | ⟨o, h⟩) | ⟨o, its, n, h1, h2, _⟩
  · exact .base (.lst h)
  · exact .base (.frz h)
  · exact .kList h1 h2
theorem TyX_tp {H : Hp} {a : Addr} {vs : List V} (h : SqT K H a vs) : TyX K H (.ref a) (.type "tuple") := by
  rcases h with (h | ⟨o, h⟩) | ⟨o, its, n, h1, h2, _⟩
  · exact .base (.tup h)
  · exact .fTuple h
  · exact .kTuple h1 h2
def Five (n : String) : Prop := n = "bool" ∨ n = "int" ∨ n = "str" ∨ n = "list" ∨ n = "tuple"
theorem kit5 {n : String} (hn : Five n) : PySem.W.kitOne K (.type "NoneType") (.type n) = some false ∧ PySem.W.kitOne K (.type "bool") (.type n) = some (n == "bool" || n == "int") ∧ PySem.W.kitOne K (.type "int") (.type n) = some (n == "int") ∧
    PySem.W.kitOne K (.type "str") (.type n) = some (n == "str") ∧ PySem.W.kitOne K (.type "list") (.type n) = some (n == "list") ∧ PySem.W.kitOne K (.type "tuple") (.type n) = some (n == "tuple") := by
  rcases hn with rfl | rfl | rfl | rfl | rfl <;> exact ⟨kit_ty (by decide +kernel), kit_ty (by decide +kernel), kit_ty (by decide +kernel), kit_ty (by decide +kernel), kit_ty (by decide +kernel), kit_ty (by decide +kernel)⟩
theorem op1_isi {n : String} (hn : Five n) : Op1 K (fun x H Q => rIsi K [x, .ty n] H Q) (isiD n) := fun mg W O H σ c v Q hO h1 h => by
  obtain ⟨k0, k1, k2, k3, k4, k5⟩ := kit5 (K := K) hn
  unfold isiD at h
  split at h
  · exact h.elim
  · have e := Dp_none (Peek_d h1)
    subst e
    exact ⟨_, _, _, _, _, rfl, .ty n, .base .non, k0, h.dat (.bl _)⟩
  · have e := Dp_bool (Peek_d h1)
    subst e
    exact ⟨_, _, _, _, _, rfl, .ty n, .base (.bl _), k1, h.dat (.bl _)⟩
  · have e := Dp_int (Peek_d h1)
    subst e
    exact ⟨_, _, _, _, _, rfl, .ty n, .base (.int _), k2, h.dat (.bl _)⟩
  · have e := Dp_str (Peek_d h1)
    subst e
    exact ⟨_, _, _, _, _, rfl, .ty n, .base (.str _), k3, h.dat (.bl _)⟩
  · obtain ⟨a, vs, rfl, s, q⟩ := Dp_seq (Peek_d h1)
    exact ⟨_, _, _, _, _, rfl, .ty n, TyX_sq (SqL_mono hide_sub s), k4, h.dat (.bl _)⟩
  · obtain ⟨a, vs, rfl, s, q⟩ := Dp_tup (Peek_d h1)
    exact ⟨_, _, _, _, _, rfl, .ty n, TyX_tp (SqT_mono hide_sub s), k5, h.dat (.bl _)⟩
  · exact h.elim
  · obtain ⟨a, vs, rfl, s, q⟩ := Peek_own h1
    exact ⟨_, _, _, _, _, rfl, .ty n, TyX_sq (SqL.of s), k4, h.dat (.bl _)⟩
  · obtain ⟨_, a, as, rfl, _, s, q⟩ := h1
    exact ⟨_, _, _, _, _, rfl, .ty n, TyX_sq (SqL.of s), k4, h.dat (.bl _)⟩
/-! ### subscripts -/
theorem atI_mono {xs : List V} {ds : List D} {H : Hp} {i : Int} {x : D} (q : DpAll K H xs ds) (h : atI ds i = some x) : ∃ v, atI xs i = some v ∧ Dp K H v x := by
  obtain ⟨j, h1, h2⟩ := Option.bind_eq_some_iff.mp h
  obtain ⟨v, e1, e2⟩ := DpAll_get q h2
  exact ⟨v, Option.bind_eq_some_iff.mpr ⟨j, by rw [DpAll_len q]; exact h1, e1⟩, e2⟩
theorem atI_rows {H : Hp} {O : Addr → Prop} {as : List Addr} {xss : List (List D)} {i : Int} {xs : List D} (q : RowsR K H O as xss) (h : atI xss i = some xs) : ∃ a vs, atI (as.map V.ref) i = some (.ref a) ∧ H a = some (.lst vs) ∧ DpAll K (hide H O) vs xs := by
  obtain ⟨j, h1, h2⟩ := Option.bind_eq_some_iff.mp h
  obtain ⟨a, vs, e1, e2, e3⟩ := RowsR_get q h2
  refine ⟨a, vs, Option.bind_eq_some_iff.mpr ⟨j, by rw [List.length_map, RowsR_len q]; exact h1, ?_⟩, e2, e3⟩
  rw [List.getElem?_map, e1]
  rfl
def Op2P (K : PySem.W.Frag) (r : R2) (op : Cell → Cell → R Cell) : Prop :=
  ∀ (mg : Str → Option Value) (W : WX) (O : Addr → Prop) (H : Hp) (σ : L2.St) (c d : Cell) (v u : V) (Q : VK), (∀ a, O a → ∃ o, H a = some o) → PeekR K H O c v → PeekR K H O d u → HandP K mg W O H σ (op c d) Q → r v u H Q
theorem op2p_ix : Op2P K (rIx K) idxD := fun mg W O H σ c d v u Q hO h1 h2 h => by
  unfold idxD at h
  split at h
  · rename_i i
    have e2 := Peek_int h2
    subst e2
    split at h
    · obtain ⟨a, vs, rfl, s, q⟩ := Dp_seq (Peek_d h1)
      split at h
      · rename_i x e
        obtain ⟨w, e1, e2⟩ := atI_mono q e
        exact .inl ⟨a, vs, i, w, rfl, rfl, SqL_mono hide_sub s, e1, h w H (Same.refl H) ⟨[], rfl, e2⟩⟩
      · exact h.elim
    · obtain ⟨a, vs, rfl, s, q⟩ := Dp_tup (Peek_d h1)
      split at h
      · rename_i x e
        obtain ⟨w, e1, e2⟩ := atI_mono q e
        exact .inr (.inl ⟨a, vs, i, w, rfl, rfl, SqT_mono hide_sub s, e1, h w H (Same.refl H) ⟨[], rfl, e2⟩⟩)
      · exact h.elim
    · obtain ⟨a, vs, rfl, s, q⟩ := Peek_own h1
      split at h
      · rename_i x e
        obtain ⟨w, e1, e2⟩ := atI_mono q e
        exact .inl ⟨a, vs, i, w, rfl, rfl, SqL.of s, e1, h w H (Same.refl H) ⟨[], rfl, e2⟩⟩
      · exact h.elim
    · obtain ⟨_, a, as, rfl, _, s, q⟩ := h1
      split at h
      · rename_i x e
        obtain ⟨b, ws, e1, e2, e3⟩ := atI_rows q e
        exact .inl ⟨a, _, i, .ref b, rfl, rfl, SqL.of s, e1, h _ H (Same.refl H) ⟨[b], b, ws, rfl, rfl, e2, e3⟩⟩
      · exact h.elim
    · exact h.elim
  · exact h.elim
end
section
variable {X : Cx} {W : WX} {e a b c : Expr} {fa fb fc : Env → R Cell} {pos : Pos}
theorem look2P {K : PySem.W.Frag} {mg : Str → Option Value} {r : R2} {op : Cell → Cell → R Cell} (ho : Op2P K r op) : ∀ σ H Q, tpD K mg W (fun en => (fa en).bind fun x => (fb en).bind fun y => op x y) σ H Q → tOp r (tpD K mg W fa) (tpD K mg W fb) σ H Q := fun σ H Q ⟨H0, O0, own, env, E, h⟩ => by
  refine ⟨H0, O0, own, env, E, ?_⟩
  cases q : fa env with
  | no =>
    simp only [q, R.bind_no] at h
    exact h
  | ex k fs =>
    simp only [q, R.bind_ex] at h
    exact h
  | ok c =>
    simp only [q, R.bind_ok] at h
    intro v H1 s1 r1
    refine ⟨H0, O0, own, env, E.mono s1, ?_⟩
    cases q2 : fb env with
    | no =>
      simp only [q2, R.bind_no] at h
      exact h
    | ex k fs =>
      simp only [q2, R.bind_ex] at h
      exact fun H' cls d s' w => h H' cls d (s1.trans s') w
    | ok d =>
      simp only [q2, R.bind_ok] at h
      exact fun u H2 s2 r2 => ho mg W _ H2 σ c d v u Q (E.mono (s1.trans s2)).thereO (PeekR_mono s2 (fun _ _ _ z => z) r1) r2 (HandP.mono (s1.trans s2) h)
/-- a[b], looked at -/
theorem dp_ix (ha : PE X a (tpD X.K X.mg W fa)) (hb : PE X b (tpD X.K X.mg W fb)) (hs : PlainIx b := by exact fun _ _ => rfl) : PE X (.Subscript a b pos) (tpD X.K X.mg W fun en => (fa en).bind fun x => (fb en).bind fun y => idxD x y) :=
  PE.imp (pe_ix ix_seq ha hb hs) (look2P op2p_ix)
/-- comparisons as tests -/
theorem look2T {K : PySem.W.Frag} {mg : Str → Option Value} {r : R2} {op : Cell → Cell → R Cell} (ho : Op2 K r op) : ∀ σ H Q, ttD K mg W (fun en => ((fa en).bind fun x => (fb en).bind fun y => op x y).bind asB) σ H Q → tTest (tOp r (tpD K mg W fa) (tpD K mg W fb)) σ H Q := fun σ H Q h => by
  refine look2 (mg := mg) (W := W) ho σ H _ ?_
  obtain ⟨H0, O0, own, env, E, h⟩ := h
  refine ⟨H0, O0, own, env, E, ?_⟩
  dsimp only
  cases q : ((fa env).bind fun x => (fb env).bind fun y => op x y) with
  | no =>
    simp only [q, R.bind_no] at h
    exact h
  | ex k fs =>
    simp only [q, R.bind_ex] at h
    exact h
  | ok c =>
    simp only [q, R.bind_ok] at h
    intro v H' os s _ _ r
    unfold asB at h
    split at h
    · rename_i b
      have e := Dp_bool r.2
      subst e
      exact ⟨b, rfl, h H' s⟩
    · exact h.elim
theorem dt_cmp {op : CmpOp} {r : R2} {g : Cell → Cell → R Cell} (hr : OpR X (compareOp op) r) (ho : Op2 X.K r g) (ha : PE X a (tpD X.K X.mg W fa)) (hb : PE X b (tpD X.K X.mg W fb)) (hm : behindInMarks op b = false) :
    PT X (.Compare a [op] [b] pos) (ttD X.K X.mg W fun en => ((fa en).bind fun x => (fb en).bind fun y => g x y).bind asB) := PT.imp (pt_cmpR hr ha hb hm) (look2T ho)
theorem lookT {K : PySem.W.Frag} {mg : Str → Option Value} : ∀ σ H Q, ttD K mg W (fun en => (fa en).bind asB) σ H Q → tB (teD K mg W fa) σ H Q := fun σ H Q h => by
  obtain ⟨H0, O0, own, env, E, h⟩ := h
  refine ⟨H0, O0, own, env, E, ?_⟩
  cases q : fa env with
  | no =>
    simp only [q, R.bind_no] at h
    exact h
  | ex k fs =>
    simp only [q, R.bind_ex] at h
    exact h
  | ok c =>
    simp only [q, R.bind_ok] at h
    intro v H' os s _ _ r
    unfold asB at h
    split at h
    · rename_i b
      have e := Dp_bool r.2
      subst e
      exact ⟨b, rfl, h H' s⟩
    · exact h.elim
/-- a value that is True or False, as a test -/
theorem dt_val (ha : PE X a (teD X.K X.mg W fa)) (he : ∀ whole, isTrue a X.env whole = (do let v ← whole; standAt a.pos; holding [v] (truthy v)) := by intro _; rfl) : PT X a (ttD X.K X.mg W fun en => (fa en).bind asB) :=
  PT.imp (pt_val ha he) lookT
variable {ta tb : Env → R Bool} {rest : List Expr}
def andR (x : R Bool) (y : R Bool) : R Bool := x.bind fun b => if b = true then y else .ok false
def orR (x : R Bool) (y : R Bool) : R Bool := x.bind fun b => if b = true then .ok true else y
def notR (x : R Bool) : R Bool := x.bind fun b => .ok (!b)
theorem dt_not (ha : PT X a (ttD X.K X.mg W ta)) : PT X (.UnaryOp .Not a pos) (ttD X.K X.mg W fun en => notR (ta en)) := PT.imp (pt_not ha) fun σ H Q ⟨H0, O0, own, env, E, h⟩ => by
  refine ⟨H0, O0, own, env, E, ?_⟩
  unfold notR at h
  cases q : ta env with
  | no => simp only [q, R.bind_no] at h; exact h
  | ex k fs => simp only [q, R.bind_ex] at h; exact h
  | ok b => simp only [q, R.bind_ok] at h; exact h
theorem dw_and1 (ha : PT X a (ttD X.K X.mg W ta)) : PW X (.BoolOp .And [a] pos) (ttD X.K X.mg W ta) := pw_and1 ha
theorem dw_or1 (ha : PT X a (ttD X.K X.mg W ta)) : PW X (.BoolOp .Or [a] pos) (ttD X.K X.mg W ta) := pw_or1 ha
theorem dw_and (ha : PT X a (ttD X.K X.mg W ta)) (hb : PW X (.BoolOp .And (b :: rest) pos) (ttD X.K X.mg W tb)) : PW X (.BoolOp .And (a :: b :: rest) pos) (ttD X.K X.mg W fun en => andR (ta en) (tb en)) := PW.imp (pw_and ha hb) fun σ H Q ⟨H0, O0, own, env, E, h⟩ => by
  refine ⟨H0, O0, own, env, E, ?_⟩
  unfold andR at h
  cases q : ta env with
  | no => simp only [q, R.bind_no] at h; exact h
  | ex k fs => simp only [q, R.bind_ex] at h; exact h
  | ok b =>
    simp only [q, R.bind_ok] at h
    intro H' s
    cases b with
    | true =>
      rw [if_pos rfl] at h ⊢
      exact ⟨H0, O0, own, env, E.mono s, HandT.mono s h⟩
    | false =>
      rw [if_neg Bool.false_ne_true] at h ⊢
      exact h H' s
theorem dw_or (ha : PT X a (ttD X.K X.mg W ta)) (hb : PW X (.BoolOp .Or (b :: rest) pos) (ttD X.K X.mg W tb)) : PW X (.BoolOp .Or (a :: b :: rest) pos) (ttD X.K X.mg W fun en => orR (ta en) (tb en)) := PW.imp (pw_or ha hb) fun σ H Q ⟨H0, O0, own, env, E, h⟩ => by
  refine ⟨H0, O0, own, env, E, ?_⟩
  unfold orR at h
  cases q : ta env with
  | no => simp only [q, R.bind_no] at h; exact h
  | ex k fs => simp only [q, R.bind_ex] at h; exact h
  | ok b =>
    simp only [q, R.bind_ok] at h
    intro H' s
    cases b with
    | true =>
      rw [if_pos rfl] at h ⊢
      exact h H' s
    | false =>
      rw [if_neg Bool.false_ne_true] at h ⊢
      exact ⟨H0, O0, own, env, E.mono s, HandT.mono s h⟩
/-! ### and, or, not as values (truth values) -/
def andV (x y : R Cell) : R Cell := (x.bind asB).bind fun b => if b = true then y else .ok (.d (.bool false))
def orV (x y : R Cell) : R Cell := (x.bind asB).bind fun b => if b = true then .ok (.d (.bool true)) else y
def notV (x : R Cell) : R Cell := (x.bind asB).bind fun b => .ok (.d (.bool (!b)))
theorem de_one {op} (ha : PE X a (teD X.K X.mg W fa)) : PE X (.BoolOp op [a] pos) (teD X.K X.mg W fa) := pe_one ha
theorem asB_ok {K : PySem.W.Frag} {H : Hp} {O : Addr → Prop} {os : List Addr} {c : Cell} {v : V} {b : Bool} (h : asB c = .ok b) (r : CellR K H O os c v) : v = .bl b := by
  unfold asB at h
  split at h
  · cases h
    exact Dp_bool r.2
  · cases h
theorem asB_ex {c : Cell} {k : Str} {fs : List (Str × D)} (h : asB c = .ex k fs) : False := by
  unfold asB at h
  split at h <;> cases h
theorem de_and (ha : PE X a (teD X.K X.mg W fa)) (hb : PE X (.BoolOp .And (b :: rest) pos) (teD X.K X.mg W fb)) : PE X (.BoolOp .And (a :: b :: rest) pos) (teD X.K X.mg W fun en => andV (fa en) (fb en)) := PE.imp (pe_and ha hb) fun σ H Q ⟨H0, O0, own, env, E, h⟩ => by
  refine ⟨H0, O0, own, env, E, ?_⟩
  unfold andV at h
  cases q : fa env with
  | no => simp only [q, R.bind_no] at h; exact h
  | ex k fs => simp only [q, R.bind_ex] at h; exact h
  | ok c =>
    simp only [q, R.bind_ok] at h
    intro v H' os s _ _ r
    cases q2 : asB c with
    | no => simp only [q2, R.bind_no] at h; exact h.elim
    | ex k fs => exact (asB_ex q2).elim
    | ok b =>
      simp only [q2, R.bind_ok] at h
      refine ⟨b, asB_ok q2 r, ?_⟩
      cases b with
      | true =>
        rw [if_pos rfl] at h ⊢
        exact ⟨H0, O0, own, env, E.mono s, Hand.mono s h⟩
      | false =>
        rw [if_neg Bool.false_ne_true] at h ⊢
        exact (Hand.mono s h).dat (.bl _)
theorem de_or (ha : PE X a (teD X.K X.mg W fa)) (hb : PE X (.BoolOp .Or (b :: rest) pos) (teD X.K X.mg W fb)) : PE X (.BoolOp .Or (a :: b :: rest) pos) (teD X.K X.mg W fun en => orV (fa en) (fb en)) := PE.imp (pe_or ha hb) fun σ H Q ⟨H0, O0, own, env, E, h⟩ => by
  refine ⟨H0, O0, own, env, E, ?_⟩
  unfold orV at h
  cases q : fa env with
  | no => simp only [q, R.bind_no] at h; exact h
  | ex k fs => simp only [q, R.bind_ex] at h; exact h
  | ok c =>
    simp only [q, R.bind_ok] at h
    intro v H' os s _ _ r
    cases q2 : asB c with
    | no => simp only [q2, R.bind_no] at h; exact h.elim
    | ex k fs => exact (asB_ex q2).elim
    | ok b =>
      simp only [q2, R.bind_ok] at h
      refine ⟨b, asB_ok q2 r, ?_⟩
      cases b with
      | true =>
        rw [if_pos rfl] at h ⊢
        exact (Hand.mono s h).dat (.bl _)
      | false =>
        rw [if_neg Bool.false_ne_true] at h ⊢
        exact ⟨H0, O0, own, env, E.mono s, Hand.mono s h⟩
theorem de_not (ha : PE X a (teD X.K X.mg W fa)) : PE X (.UnaryOp .Not a pos) (teD X.K X.mg W fun en => notV (fa en)) := PE.imp (pe_not ha) fun σ H Q ⟨H0, O0, own, env, E, h⟩ => by
  refine ⟨H0, O0, own, env, E, ?_⟩
  unfold notV at h
  cases q : fa env with
  | no => simp only [q, R.bind_no] at h; exact h
  | ex k fs => simp only [q, R.bind_ex] at h; exact h
  | ok c =>
    simp only [q, R.bind_ok] at h
    intro v H' os s _ _ r
    cases q2 : asB c with
    | no => simp only [q2, R.bind_no] at h; exact h.elim
    | ex k fs => exact (asB_ex q2).elim
    | ok b =>
      simp only [q2, R.bind_ok] at h
      exact ⟨b, asB_ok q2 r, (Hand.mono s h).dat (.bl _)⟩
def ifR {α : Type} (t : R Bool) (x y : R α) : R α := t.bind fun b => if b = true then x else y
theorem de_if (hc : PT X c (ttD X.K X.mg W ta)) (ha : PE X a (teD X.K X.mg W fa)) (hb : PE X b (teD X.K X.mg W fb)) : PE X (.IfExp c a b pos) (teD X.K X.mg W fun en => ifR (ta en) (fa en) (fb en)) := PE.imp (pe_ifExp hc ha hb) fun σ H Q ⟨H0, O0, own, env, E, h⟩ => by
  refine ⟨H0, O0, own, env, E, ?_⟩
  unfold ifR at h
  cases q : ta env with
  | no => simp only [q, R.bind_no] at h; exact h
  | ex k fs => simp only [q, R.bind_ex] at h; exact h
  | ok b =>
    simp only [q, R.bind_ok] at h
    intro H' s
    cases b with
    | true =>
      rw [if_pos rfl] at h ⊢
      exact ⟨H0, O0, own, env, E.mono s, Hand.mono s h⟩
    | false =>
      rw [if_neg Bool.false_ne_true] at h ⊢
      exact ⟨H0, O0, own, env, E.mono s, Hand.mono s h⟩
/-- a is None, a is not None -/
theorem de_isN {j p'} (ha : PE X a (tpD X.K X.mg W fa)) : PE X (.Compare a [.Is] [.Constant .none j p'] pos) (teD X.K X.mg W fun en => (fa en).bind isNoneD) := PE.imp (pe_cmp (pc_isN ha)) (look1 op1_isN)
theorem de_notN {j p'} (ha : PE X a (tpD X.K X.mg W fa)) : PE X (.Compare a [.IsNot] [.Constant .none j p'] pos) (teD X.K X.mg W fun en => (fa en).bind notNoneD) := PE.imp (pe_cmp (pc_notN ha)) (look1 op1_notN)
theorem dt_isN {j p'} (ha : PE X a (tpD X.K X.mg W fa)) : PT X (.Compare a [.Is] [.Constant .none j p'] pos) (ttD X.K X.mg W fun en => ((fa en).bind isNoneD).bind asB) := PT.imp (pt_cmp (pc_isN ha)) fun σ H Q h => by
  have h' := lookT (fa := fun en => (fa en).bind isNoneD) σ H Q h
  exact look1 op1_isN σ H _ h'
theorem dt_notN {j p'} (ha : PE X a (tpD X.K X.mg W fa)) : PT X (.Compare a [.IsNot] [.Constant .none j p'] pos) (ttD X.K X.mg W fun en => ((fa en).bind notNoneD).bind asB) := PT.imp (pt_cmp (pc_notN ha)) fun σ H Q h => by
  have h' := lookT (fa := fun en => (fa en).bind notNoneD) σ H Q h
  exact look1 op1_notN σ H _ h'
/-! ### calls of built-ins -/
variable {x : Str} {p : Pos} {id T : String} {r : List V → Hp → VK → Prop}
theorem de_b1 {g : Cell → R Cell} (hc : CallR X (.builtin id) r) (hm : X.mg x = none) (hv : bootBuiltins x = some (.builtin id)) (ho : Op1 X.K (fun v H Q => r [v] H Q) g) (ha : PE X a (tpD X.K X.mg W fa)) (hg : Gl X x := by rfl) (hn : x ≠ "__name__" := by decide) (hdb : (x == ("__debug__" : Str)) = false := by decide)
    (he : starEach (a :: []) X.env = (false, eval a X.env) :: starEach [] X.env := by rfl) (hpl : (backTo pos (starEach [] X.env)).any (·.1) = false := by rfl) :
    PE X (.Call (.Name x p) [a] [] pos) (teD X.K X.mg W fun en => (fa en).bind g) := PE.imp (pe_callB hc hg hm hv (pa_cons ha pa_nil he) hn hdb he hpl) (look1 ho)
theorem de_t1 {g : Cell → R Cell} (hc : CallR X (.type T) r) (hm : X.mg x = none) (hv : bootBuiltins x = some (.type T)) (ho : Op1 X.K (fun v H Q => r [v] H Q) g) (ha : PE X a (tpD X.K X.mg W fa)) (hg : Gl X x := by rfl) (hn : x ≠ "__name__" := by decide) (hdb : (x == ("__debug__" : Str)) = false := by decide)
    (he : starEach (a :: []) X.env = (false, eval a X.env) :: starEach [] X.env := by rfl) (hpl : (backTo pos (starEach [] X.env)).any (·.1) = false := by rfl) :
    PE X (.Call (.Name x p) [a] [] pos) (teD X.K X.mg W fun en => (fa en).bind g) := PE.imp (pe_callTy hc hg hm hv (pa_cons ha pa_nil he) hn hdb he hpl) (look1 ho)
theorem de_b2 {g : Cell → Cell → R Cell} (hc : CallR X (.builtin id) r) (hm : X.mg x = none) (hv : bootBuiltins x = some (.builtin id)) (ho : Op2 X.K (fun v u H Q => r [v, u] H Q) g) (ha : PE X a (tpD X.K X.mg W fa)) (hb : PE X b (tpD X.K X.mg W fb)) (hg : Gl X x := by rfl) (hn : x ≠ "__name__" := by decide) (hdb : (x == ("__debug__" : Str)) = false := by decide)
    (he : starEach (a :: [b]) X.env = (false, eval a X.env) :: starEach [b] X.env := by rfl) (he2 : starEach (b :: []) X.env = (false, eval b X.env) :: starEach [] X.env := by rfl) (hpl : (backTo pos (starEach [b] X.env)).any (·.1) = false := by rfl) :
    PE X (.Call (.Name x p) [a, b] [] pos) (teD X.K X.mg W fun en => (fa en).bind fun y => (fb en).bind fun z => g y z) := PE.imp (pe_callB hc hg hm hv (pa_cons ha (pa_cons hb pa_nil he2) he) hn hdb he hpl) (look2 ho)
theorem de_len (hm : X.mg "len" = none) (ha : PE X a (tpD X.K X.mg W fa)) (hg : Gl X "len" := by rfl)
    (he : starEach (a :: []) X.env = (false, eval a X.env) :: starEach [] X.env := by rfl) (hpl : (backTo pos (starEach [] X.env)).any (·.1) = false := by rfl) :
    PE X (.Call (.Name "len" p) [a] [] pos) (teD X.K X.mg W fun en => (fa en).bind lenD) := de_b1 (CallR.or call_len_seq call_len_str) hm PySem.boot_len op1_len ha hg (by decide) (by decide) he hpl
theorem de_list (hm : X.mg "list" = none) (ha : PE X a (tpD X.K X.mg W fa)) (hg : Gl X "list" := by rfl)
    (he : starEach (a :: []) X.env = (false, eval a X.env) :: starEach [] X.env := by rfl) (hpl : (backTo pos (starEach [] X.env)).any (·.1) = false := by rfl) :
    PE X (.Call (.Name "list" p) [a] [] pos) (teD X.K X.mg W fun en => (fa en).bind listD) := de_t1 call_list_of hm (by decide +kernel) op1_list ha hg (by decide) (by decide) he hpl
theorem de_tuple (hm : X.mg "tuple" = none) (ha : PE X a (tpD X.K X.mg W fa)) (hg : Gl X "tuple" := by rfl)
    (he : starEach (a :: []) X.env = (false, eval a X.env) :: starEach [] X.env := by rfl) (hpl : (backTo pos (starEach [] X.env)).any (·.1) = false := by rfl) :
    PE X (.Call (.Name "tuple" p) [a] [] pos) (teD X.K X.mg W fun en => (fa en).bind tupleD) := de_t1 call_tuple_of hm (by decide +kernel) op1_tuple ha hg (by decide) (by decide) he hpl
theorem de_max (hc : X.calm = true) (hm : X.mg "max" = none) (ha : PE X a (tpD X.K X.mg W fa)) (hb : PE X b (tpD X.K X.mg W fb)) (hg : Gl X "max" := by rfl)
    (he : starEach (a :: [b]) X.env = (false, eval a X.env) :: starEach [b] X.env := by rfl) (he2 : starEach (b :: []) X.env = (false, eval b X.env) :: starEach [] X.env := by rfl) (hpl : (backTo pos (starEach [b] X.env)).any (·.1) = false := by rfl) :
    PE X (.Call (.Name "max" p) [a, b] [] pos) (teD X.K X.mg W fun en => (fa en).bind fun y => (fb en).bind fun z => maxD y z) := de_b2 (call_max2 hc) hm (by decide +kernel) op2_max ha hb hg (by decide) (by decide) he he2 hpl
theorem de_min (hc : X.calm = true) (hm : X.mg "min" = none) (ha : PE X a (tpD X.K X.mg W fa)) (hb : PE X b (tpD X.K X.mg W fb)) (hg : Gl X "min" := by rfl)
    (he : starEach (a :: [b]) X.env = (false, eval a X.env) :: starEach [b] X.env := by rfl) (he2 : starEach (b :: []) X.env = (false, eval b X.env) :: starEach [] X.env := by rfl) (hpl : (backTo pos (starEach [b] X.env)).any (·.1) = false := by rfl) :
    PE X (.Call (.Name "min" p) [a, b] [] pos) (teD X.K X.mg W fun en => (fa en).bind fun y => (fb en).bind fun z => minD y z) := de_b2 (call_min2 hc) hm (by decide +kernel) op2_min ha hb hg (by decide) (by decide) he he2 hpl
/-- isinstance(a, T) -/
theorem de_isi {n : Str} {np : Pos} {T : String} (h5 : Five T) (hm : X.mg "isinstance" = none) (hmT : X.mg n = none) (hvT : bootBuiltins n = some (.type T)) (ha : PE X a (tpD X.K X.mg W fa)) (hg : Gl X "isinstance" := by rfl) (hgT : Gl X n := by rfl) (hnT : n ≠ "__name__" := by decide) (hdT : (n == ("__debug__" : Str)) = false := by decide)
    (he : starEach (a :: [.Name n np]) X.env = (false, eval a X.env) :: starEach [.Name n np] X.env := by rfl) (he2 : starEach (.Name n np :: []) X.env = (false, eval (.Name n np) X.env) :: starEach [] X.env := by rfl) (hpl : (backTo pos (starEach [.Name n np] X.env)).any (·.1) = false := by rfl) :
    PE X (.Call (.Name "isinstance" p) [a, .Name n np] [] pos) (teD X.K X.mg W fun en => (fa en).bind (isiD T)) :=
  PE.imp (pe_callB call_isi hg hm (by decide +kernel) (pa_cons ha (pa_cons (pe_bltn (v := .ty T) hgT hmT hvT rfl hnT hdT) pa_nil he2) he) (by decide) (by decide) he hpl) (look1 (op1_isi h5))
/-! ### arguments -/
theorem CellR_dat {K : PySem.W.Frag} {H : Hp} {O : Addr → Prop} {os : List Addr} {c : Cell} {v : V} {x : D} (n : ∀ a ∈ os, ¬ O a) (r : CellR K H (fun a => O a ∨ a ∈ os) os c v) (e : asD c = .ok x) : Dp K (hide H O) v x := by
  have s : Same (hide H (fun a => O a ∨ a ∈ os)) (hide H O) := hide_same (Same.refl H) fun _ _ _ z => .inl z
  cases c with
  | un => cases e
  | d y =>
    cases e
    exact Dp_mono s _ _ r.2
  | own ys =>
    cases e
    obtain ⟨a, vs, rfl, e2, e3, q⟩ := r
    exact .lst (SqL.of (hide_eq.mpr ⟨n a (by rw [e2]; exact List.mem_cons_self), e3⟩)) (DpAll_mono s _ _ q)
  | own2 yss =>
    cases e
    obtain ⟨a, as, rfl, e2, e3, q⟩ := r
    refine .lst (SqL.of (hide_eq.mpr ⟨n a (by rw [e2]; exact List.mem_cons_self), e3⟩)) ?_
    have na : ∀ b ∈ as, ¬ O b := fun b hb => n b (by rw [e2]; exact List.mem_cons_of_mem _ hb)
    clear e2 e3 n
    induction as generalizing yss with
    | nil =>
      cases yss with
      | nil => exact .nil
      | cons _ _ => exact q.elim
    | cons b as ih =>
      cases yss with
      | nil => exact q.elim
      | cons ys yss =>
        obtain ⟨⟨vs, e4, q1⟩, q2⟩ := q
        exact .cons (.lst (SqL.of (hide_eq.mpr ⟨na b List.mem_cons_self, e4⟩)) (DpAll_mono s _ _ q1)) (ih _ q2 fun b' hb => na b' (List.mem_cons_of_mem _ hb))
variable {es : List Expr} {ga : Env → R (List D)}
def consR (x : R Cell) (r : R (List D)) : R (List D) := (x.bind asD).bind fun d => r.bind fun ds => .ok (d :: ds)
theorem asD_ex {c : Cell} {k : Str} {fs : List (Str × D)} (h : asD c = .ex k fs) : False := by
  unfold asD at h
  split at h <;> cases h
theorem da_nil : PA X [] (taD X.K X.mg W fun _ => .ok []) := PA.imp pa_nil fun σ H Q ⟨H0, O0, own, env, E, h⟩ => h [] H (Same.refl H) .nil
theorem da_cons (ha : PE X a (teD X.K X.mg W fa)) (hr : PA X es (taD X.K X.mg W ga)) (hs : starEach (a :: es) X.env = (false, eval a X.env) :: starEach es X.env := by rfl) : PA X (a :: es) (taD X.K X.mg W fun en => consR (fa en) (ga en)) := PA.imp (pa_cons ha hr hs) fun σ H Q ⟨H0, O0, own, env, E, h⟩ => by
  refine ⟨H0, O0, own, env, E, ?_⟩
  unfold consR at h
  cases q : fa env with
  | no => simp only [q, R.bind_no] at h; exact h
  | ex k fs => simp only [q, R.bind_ex] at h; exact h
  | ok c =>
    simp only [q, R.bind_ok] at h
    intro v H' os s fr nd r
    refine ⟨H0, O0, own, env, E.mono s, ?_⟩
    cases q2 : asD c with
    | no => simp only [q2, R.bind_no] at h; exact h.elim
    | ex k fs => exact (asD_ex q2).elim
    | ok d =>
      simp only [q2, R.bind_ok] at h
      have hd : Dp X.K (hide H' (tO O0 own)) v d := CellR_dat (fun a ha z => by
        obtain ⟨o, e⟩ := E.thereO a z
        rw [fr a ha] at e
        cases e) r q2
      cases q3 : ga env with
      | no => simp only [q3, R.bind_no] at h; exact h
      | ex k fs => simp only [q3, R.bind_ex] at h; exact fun H2 cls d' s' w => h H2 cls d' (s.trans s') w
      | ok ds =>
        simp only [q3, R.bind_ok] at h
        exact fun vs H2 s2 r2 => h (v :: vs) H2 (s.trans s2) (.cons (Dp_mono (hide_same s2 fun _ _ _ z => z) _ _ hd) r2)
def lstR (r : R (List D)) : R Cell := r.bind fun ds => if ds.length ≤ 16777216 then .ok (.own ds) else .no
def tupR (r : R (List D)) : R Cell := r.bind fun ds => if ds.length ≤ 16777216 then .ok (.d (.tuple ds)) else .no
theorem de_lst (ha : PA X es (taD X.K X.mg W ga)) : PE X (.List es pos) (teD X.K X.mg W fun en => lstR (ga en)) := PE.imp (pe_lst ha) fun σ H Q ⟨H0, O0, own, env, E, h⟩ => by
  refine ⟨H0, O0, own, env, E, ?_⟩
  unfold lstR at h
  cases q : ga env with
  | no => simp only [q, R.bind_no] at h; exact h
  | ex k fs => simp only [q, R.bind_ex] at h; exact h
  | ok ds =>
    simp only [q, R.bind_ok] at h
    intro vs H' s r
    split at h
    · rename_i hl
      exact ⟨by rw [DpAll_len r, sizeLine_eq]; exact hl, (Hand.mono s h).newL r⟩
    · exact h.elim
theorem de_tup {x1} (ha : PA X es (taD X.K X.mg W ga)) : PE X (.Tuple es x1 pos) (teD X.K X.mg W fun en => tupR (ga en)) := PE.imp (pe_tup ha) fun σ H Q ⟨H0, O0, own, env, E, h⟩ => by
  refine ⟨H0, O0, own, env, E, ?_⟩
  unfold tupR at h
  cases q : ga env with
  | no => simp only [q, R.bind_no] at h; exact h
  | ex k fs => simp only [q, R.bind_ex] at h; exact h
  | ok ds =>
    simp only [q, R.bind_ok] at h
    intro vs H' s r
    split at h
    · rename_i hl
      exact ⟨by rw [DpAll_len r, sizeLine_eq]; exact hl, (Hand.mono s h).newT (E.mono s).thereO r⟩
    · exact h.elim
end
end DL
/-! ## DL, part 5: slices, calls of defs, what is walked, comprehensions -/
namespace DL
open PySem PySem.Spec PyProof.Rows L2
/-! ### slices -/
def asI (c : Cell) : R (Option Int) := match c with
  | .d (.int i) => .ok (some i)
  | _ => .no
def HandO (K : PySem.W.Frag) (mg : Str → Option Value) (W : WX) (O : Addr → Prop) (H : Hp) (σ : L2.St) (r : R (Option Int)) (Q : Option Int → Hp → Prop) : Prop :=
  match r with
  | .no => False
  | .ok o => ∀ H', Same H H' → Q o H'
  | .ex k fs => ∀ H' cls d, Same H H' → ExcR K mg (hide H' O) cls d k fs → W cls d σ H'
def toD (K : PySem.W.Frag) (mg : Str → Option Value) (W : WX) (f : Env → R (Option Int)) : TO := fun σ H Q => ∃ H0 O0 own env, EnvOk K H0 H O0 own σ env ∧ HandO K mg W (tO O0 own) H σ (f env) Q
theorem PO.imp {X : Cx} {e : Option Expr} {t t' : TO} (h : PO X e t) (i : ∀ σ H Q, t' σ H Q → t σ H Q) : PO X e t' := ⟨fun pins s σ H Q I q => h.run pins s σ H Q I (i _ _ _ q)⟩
section
variable {X : Cx} {W : WX} {e a b c : Expr} {fa fb fc : Env → R Cell} {pos p2 : Pos} {lo hi : Option Expr} {fl fh : Env → R (Option Int)}
theorem dpo_none : PO X none (toD X.K X.mg W fun _ => .ok none) := PO.imp po_none fun σ H Q ⟨H0, O0, own, env, E, h⟩ => h H (Same.refl H)
theorem dpo_some (ha : PE X a (teD X.K X.mg W fa)) : PO X (some a) (toD X.K X.mg W fun en => (fa en).bind asI) := PO.imp (po_some ha) fun σ H Q ⟨H0, O0, own, env, E, h⟩ => by
  refine ⟨H0, O0, own, env, E, ?_⟩
  cases q : fa env with
  | no => simp only [q, R.bind_no] at h; exact h
  | ex k fs => simp only [q, R.bind_ex] at h; exact h
  | ok c =>
    simp only [q, R.bind_ok] at h
    intro v H' os s _ _ r
    unfold asI at h
    split at h
    · rename_i i
      have e := Dp_int r.2
      exact ⟨i, e, h H' s⟩
    · exact h.elim
theorem cut_rel {K : PySem.W.Frag} {H : Hp} {vs : List V} {xs : List D} (q : DpAll K H vs xs) (lo hi : Option Int) : DpAll K H (cutV vs lo hi) (cutD xs lo hi) := by
  unfold cutV cutD
  rw [DpAll_len q]
  exact DpAll_take _ (DpAll_drop _ q)
theorem cut_whole {α : Type} {xs : List α} {lo hi : Option Int} (h : HT.sIx xs.length 0 lo = 0 ∧ HT.sIx xs.length xs.length hi = xs.length) : cutD xs lo hi = xs := by
  unfold cutD
  rw [h.1, h.2]
  simp
theorem de_slice (ha : PE X a (tpD X.K X.mg W fa)) (hl : PO X lo (toD X.K X.mg W fl)) (hh : PO X hi (toD X.K X.mg W fh)) :
    PE X (.Subscript a (.Slice lo hi none p2) pos) (teD X.K X.mg W fun en => (fa en).bind fun x => (fl en).bind fun l => (fh en).bind fun u => sliceD x l u) :=
  PE.imp (pe_slice (SlR.or sl_list sl_tupA) ha hl hh) fun σ H Q ⟨H0, O0, own, env, E, h⟩ => by
  refine ⟨H0, O0, own, env, E, ?_⟩
  cases q : fa env with
  | no => simp only [q, R.bind_no] at h; exact h
  | ex k fs => simp only [q, R.bind_ex] at h; exact h
  | ok c =>
    simp only [q, R.bind_ok] at h
    intro v H1 s1 r1
    refine ⟨H0, O0, own, env, E.mono s1, ?_⟩
    cases q2 : fl env with
    | no => simp only [q2, R.bind_no] at h; exact h
    | ex k fs => simp only [q2, R.bind_ex] at h; exact fun H' cls d s' w => h H' cls d (s1.trans s') w
    | ok l =>
      simp only [q2, R.bind_ok] at h
      intro H2 s2
      refine ⟨H0, O0, own, env, E.mono (s1.trans s2), ?_⟩
      cases q3 : fh env with
      | no => simp only [q3, R.bind_no] at h; exact h
      | ex k fs => simp only [q3, R.bind_ex] at h; exact fun H' cls d s' w => h H' cls d ((s1.trans s2).trans s') w
      | ok u =>
        simp only [q3, R.bind_ok] at h
        intro H3 s3
        have s := (s1.trans s2).trans s3
        have h' := Hand.mono s h
        have r3 := PeekR_mono (s2.trans s3) (fun _ _ _ z => z) r1
        unfold sliceD at h'
        split at h'
        · obtain ⟨a, vs, rfl, s, q⟩ := Dp_seq (Peek_d r3)
          exact .inl ⟨a, vs, rfl, SqL_mono hide_sub s, h'.newL (cut_rel q l u)⟩
        · obtain ⟨a, vs, rfl, s, q⟩ := Peek_own r3
          exact .inl ⟨a, vs, rfl, SqL.of s, h'.newL (cut_rel q l u)⟩
        · obtain ⟨a, vs, rfl, sq, q⟩ := Dp_tup (Peek_d r3)
          refine .inr ⟨a, vs, rfl, SqT_mono hide_sub sq, fun w => ?_, fun _ => h'.newT (E.mono s).thereO (cut_rel q l u)⟩
          rw [DpAll_len q] at w
          rw [cut_whole w] at h'
          exact h'.dat (.tup sq q)
        · exact h'.elim
/-! ### a def's promise, its call -/
def spD (K : PySem.W.Frag) (mg : Str → Option Value) (n : Nat) (m : List D → R Cell) : Sp := fun vs H Q E => ∃ (O : Addr → Prop) (ds : List D), (∀ a, O a → ∃ o, H a = some o) ∧ ds.length = n ∧ DpAll K (hide H O) vs ds ∧
  match m ds with
  | .no => False
  | .ok c => ∀ v H' os, Same H H' → (∀ a ∈ os, H a = none) → os.Nodup → CellR K H' (fun a => O a ∨ a ∈ os) os c v → Q v H'
  | .ex k fs => ∀ H' cls d, Same H H' → ExcR K mg (hide H' O) cls d k fs → E cls d H'
variable {es : List Expr} {ga : Env → R (List D)} {k n : Nat} {f : Addr} {fd : FuncData} {ps : List Str} {m : List D → R Cell} {x : Str} {p : Pos}
theorem de_call (F : FnOk X.prog X.w X.K X.mg X.base (L2.CX X.prog X.w) k f fd ps (spD X.K X.mg n m)) (hr : Room k X.A) (tk : Takes X W) (hm : X.mg x = some (.ref f)) (hk : PySem.W.keepIn X.K (.ref f) = true) (hb : Binds X.K fd ps []) (ha : PA X (e :: es) (taD X.K X.mg W ga)) (hg : Gl X x := by rfl)
    (hdb : (x == ("__debug__" : Str)) = false := by decide) (he : starEach (e :: es) X.env = (false, eval e X.env) :: starEach es X.env := by rfl) (hpl : (backTo pos (starEach es X.env)).any (·.1) = false := by rfl) (hn : ∀ ds, ds.length ≠ n → m ds = .no := by intro ds h; rfl) :
    PE X (.Call (.Name x p) (e :: es) [] pos) (teD X.K X.mg W fun en => (ga en).bind m) := PE.imp (pe_callS F hr hg hm hk hb (fun σ => passAt tk σ) ha hdb he hpl) fun σ H Q ⟨H0, O0, own, env, E, h⟩ => by
  refine ⟨H0, O0, own, env, E, ?_⟩
  cases q : ga env with
  | no => simp only [q, R.bind_no] at h; exact h
  | ex k fs => simp only [q, R.bind_ex] at h; exact h
  | ok ds =>
    simp only [q, R.bind_ok] at h
    intro vs H1 s1 r1
    by_cases hl : ds.length = n
    · refine ⟨tO O0 own, ds, (E.mono s1).thereO, hl, r1, ?_⟩
      cases q2 : m ds with
      | no => rw [q2] at h; exact h
      | ok c =>
        rw [q2] at h
        exact fun v H' os s f nd r => h v H' os (s1.trans s) (fun a ha => s1.free (f a ha)) nd r
      | ex k fs =>
        rw [q2] at h
        exact fun H' cls d s w => h H' cls d (s1.trans s) w
    · rw [hn ds hl] at h
      exact h.elim
/-- an exception is not told -/
def R.quiet {α : Type} : R α → R α
  | .ex _ _ => .no
  | r => r
theorem de_call0 (F : FnOk X.prog X.w X.K X.mg X.base (L2.CX X.prog X.w) k f fd ps (spD X.K X.mg 0 m)) (hr : Room k X.A) (hm : X.mg x = some (.ref f)) (hk : PySem.W.keepIn X.K (.ref f) = true) (hb : Binds X.K fd ps []) (hg : Gl X x := by rfl) (hdb : (x == ("__debug__" : Str)) = false := by decide) :
    PE X (.Call (.Name x p) [] [] pos) (teD X.K X.mg W fun _ => (m []).quiet) := PE.imp (pe_call0 (dvs := []) F hr hg hm hk hb .nil passL hdb) fun σ H Q ⟨H0, O0, own, env, E, h⟩ => by
  refine ⟨tO O0 own, [], E.thereO, rfl, .nil, ?_⟩
  cases q2 : m [] with
  | no => rw [q2] at h; exact h
  | ok c => rw [q2] at h; exact h
  | ex k fs => rw [q2] at h; exact h.elim
/-- the arguments looked at (own lists lent); nothing of them comes back -/
def flatD : D → Bool
  | .none => true
  | .bool _ => true
  | .int _ => true
  | .str _ => true
  | _ => false
def R.lent (r : R Cell) : R Cell := match r with
  | .ok (.d x) => if flatD x = true then .ok (.d x) else .no
  | .ok _ => .no
  | .no => .no
  | .ex _ _ => .no
def viewAll : List Cell → R (List D)
  | [] => .ok []
  | c :: cs => match c.view with
    | some x => (viewAll cs).bind fun xs => .ok (x :: xs)
    | none => .no
theorem viewAll_ok {K : PySem.W.Frag} {H : Hp} {O : Addr → Prop} : ∀ {cs : List Cell} {vs : List V} {ds : List D}, PeekAll K H O cs vs → viewAll cs = .ok ds → DpAll K H vs ds
  | [], [], _, _, e => by cases e; exact .nil
  | c :: cs, v :: vs, ds, ⟨q, r⟩, e => by
    unfold viewAll at e
    split at e
    · rename_i x ev
      cases q2 : viewAll cs with
      | no => rw [q2] at e; cases e
      | ex k fs => rw [q2] at e; cases e
      | ok xs =>
        rw [q2] at e
        cases e
        exact .cons (Peek_view q ev) (viewAll_ok r q2)
    · cases e
  | [], _ :: _, _, r, _ => r.elim
  | _ :: _, [], _, r, _ => r.elim
theorem viewAll_ex : ∀ {cs : List Cell} {k : Str} {fs : List (Str × D)}, viewAll cs = .ex k fs → False
  | [], _, _, e => by cases e
  | c :: cs, k, fs, e => by
    unfold viewAll at e
    split at e
    · cases q2 : viewAll cs with
      | no => rw [q2] at e; cases e
      | ok xs => rw [q2] at e; cases e
      | ex k' fs' => exact viewAll_ex q2
    · cases e
def consC (x : R Cell) (r : R (List Cell)) : R (List Cell) := x.bind fun d => r.bind fun ds => .ok (d :: ds)
variable {gc : Env → R (List Cell)}
theorem dc_nil : PA X [] (tcD X.K X.mg W fun _ => .ok []) := PA.imp pa_nil fun σ H Q ⟨H0, O0, own, env, E, h⟩ => h [] H (Same.refl H) trivial
theorem dc_cons (ha : PE X a (tpD X.K X.mg W fa)) (hr : PA X es (tcD X.K X.mg W gc)) (hs : starEach (a :: es) X.env = (false, eval a X.env) :: starEach es X.env := by rfl) : PA X (a :: es) (tcD X.K X.mg W fun en => consC (fa en) (gc en)) := PA.imp (pa_cons ha hr hs) fun σ H Q ⟨H0, O0, own, env, E, h⟩ => by
  refine ⟨H0, O0, own, env, E, ?_⟩
  unfold consC at h
  cases q : fa env with
  | no => simp only [q, R.bind_no] at h; exact h
  | ex k fs => simp only [q, R.bind_ex] at h; exact h
  | ok c =>
    simp only [q, R.bind_ok] at h
    intro v H' s r
    refine ⟨H0, O0, own, env, E.mono s, ?_⟩
    cases q3 : gc env with
    | no => simp only [q3, R.bind_no] at h; exact h
    | ex k fs => simp only [q3, R.bind_ex] at h; exact fun H2 cls d' s' w => h H2 cls d' (s.trans s') w
    | ok ds =>
      simp only [q3, R.bind_ok] at h
      exact fun vs H2 s2 r2 => h (v :: vs) H2 (s.trans s2) ⟨PeekR_mono s2 (fun _ _ _ z => z) r, r2⟩
theorem hide_no {H : Hp} {O : Addr → Prop} (hO : ∀ a, ¬ O a) : Same H (hide H O) := fun a o e => hide_eq.mpr ⟨hO a, e⟩
theorem Dp_flat {K : PySem.W.Frag} {H H' : Hp} {v : V} {x : D} (h : Dp K H v x) (f : flatD x = true) : Dp K H' v x := by
  cases h with
  | non => exact .non
  | bl b => exact .bl b
  | int i => exact .int i
  | str s => exact .str s
  | lst _ _ => cases f
  | tup _ _ => cases f
theorem de_lend (F : FnOk X.prog X.w X.K X.mg X.base (L2.CX X.prog X.w) k f fd ps (spD X.K X.mg n m)) (hr : Room k X.A) (tk : Takes X W) (hm : X.mg x = some (.ref f)) (hk : PySem.W.keepIn X.K (.ref f) = true) (hb : Binds X.K fd ps []) (ha : PA X (e :: es) (tcD X.K X.mg W gc)) (hg : Gl X x := by rfl)
    (hdb : (x == ("__debug__" : Str)) = false := by decide) (he : starEach (e :: es) X.env = (false, eval e X.env) :: starEach es X.env := by rfl) (hpl : (backTo pos (starEach es X.env)).any (·.1) = false := by rfl) (hn : ∀ ds, ds.length ≠ n → m ds = .no := by intro ds h; rfl) :
    PE X (.Call (.Name x p) (e :: es) [] pos) (teD X.K X.mg W fun en => (gc en).bind fun cs => (viewAll cs).bind fun ds => (m ds).lent) := PE.imp (pe_callS F hr hg hm hk hb (fun σ => passAt tk σ) ha hdb he hpl) fun σ H Q ⟨H0, O0, own, env, E, h⟩ => by
  refine ⟨H0, O0, own, env, E, ?_⟩
  cases q : gc env with
  | no => simp only [q, R.bind_no] at h; exact h
  | ex k fs => simp only [q, R.bind_ex] at h; exact h
  | ok cs =>
    simp only [q, R.bind_ok] at h
    intro vs H1 s1 r1
    cases q1 : viewAll cs with
    | no => simp only [q1, R.bind_no] at h; exact h.elim
    | ex k fs => exact (viewAll_ex q1).elim
    | ok ds =>
      simp only [q1, R.bind_ok] at h
      by_cases hl : ds.length = n
      · refine ⟨fun _ => False, ds, fun a z => z.elim, hl, DpAll_mono (hide_no fun _ z => z) _ _ (viewAll_ok r1 q1), ?_⟩
        cases q2 : m ds with
        | no => rw [q2] at h; exact h
        | ex k fs =>
          rw [q2] at h
          exact h.elim
        | ok c =>
          rw [q2] at h
          unfold R.lent at h
          cases c with
          | un => exact h.elim
          | own _ => exact h.elim
          | own2 _ => exact h.elim
          | d y =>
            dsimp only at h
            split at h
            · rename_i hf
              intro v H' os s fr nd r
              refine h v H' [] (s1.trans s) (fun a ha => by cases ha) List.nodup_nil ⟨rfl, Dp_flat r.2 hf⟩
            · exact h.elim
      · rw [hn ds hl] at h
        exact h.elim
end
end DL
/-! ## DL, part 6: targets, what is walked, comprehensions -/
namespace DL
open PySem PySem.Spec PyProof.Rows L2
/-! ### targets -/
def gNames : List Nat → TGs
  | [] => gNil
  | i :: is => gCons (gName i) (gNames is)
def Tg.tg (K : PySem.W.Frag) : Tg → TG
  | .nm i => gName i
  | .tp is => gTup K is.length (gNames is)
theorem wipe_set_mem {i : Nat} {x : Option V} : ∀ {vs : List Nat} {σ : L2.St}, i ∈ vs → wipe (σ.set i x) vs = wipe σ vs := by
  have both : ∀ (vs : List Nat) (σ : L2.St), (i ∈ vs → wipe (σ.set i x) vs = wipe σ vs) ∧ (i ∉ vs → wipe (σ.set i x) vs = (wipe σ vs).set i x) := by
    intro vs
    induction vs with
    | nil => exact fun σ => ⟨fun h => (by cases h), fun _ => rfl⟩
    | cons v vs ih =>
      intro σ
      obtain ⟨h1, h2⟩ := ih σ
      constructor
      · intro h
        show (wipe (σ.set i x) vs).set v none = (wipe σ vs).set v none
        by_cases hv : i ∈ vs
        · rw [h1 hv]
        · have e : i = v := by
            cases h with
            | head => rfl
            | tail _ h => exact absurd h hv
          rw [h2 hv, e, List.set_set]
      · intro h
        show (wipe (σ.set i x) vs).set v none = ((wipe σ vs).set v none).set i x
        have hv : i ∉ vs := fun z => h (List.mem_cons_of_mem _ z)
        have hi : i ≠ v := fun z => h (by rw [z]; exact List.mem_cons_self)
        rw [h2 hv, List.set_comm _ _ hi]
  exact fun {vs σ} h => (both vs σ).1 h
section
variable {K : PySem.W.Frag} {H0 H H' : Hp} {O0 : Addr → Prop} {own : Nat → List Addr} {σ : L2.St} {env : Env}
/-- data into a slot -/
theorem EnvOk.put (E : EnvOk K H0 H O0 own σ env) (i : Nat) {x : D} {v : V} (q : Dp K (hide H (tO O0 own)) v x) : ∃ own', EnvOk K H0 H O0 own' (σ.set i (some v)) (env.set i (.d x)) ∧ (∀ a, tO O0 own' a → tO O0 own a) ∧ ((i < env.length → own i = []) → own' = own) := by
  have sub : ∀ a, tO O0 (ownSet own i []) a → tO O0 own a := fun a z => by
    rcases z with z | ⟨j, z⟩
    · exact .inl z
    · unfold ownSet at z
      by_cases hj : j = i
      · rw [if_pos hj] at z
        cases z
      · rw [if_neg hj] at z
        exact .inr ⟨j, z⟩
  by_cases hi : i < env.length
  · refine ⟨_, E.set (c := .d x) (os := []) hi E.same (fun _ _ e _ => e) (fun _ _ _ _ _ e => e) (fun a ha => by cases ha) (fun a ha => by cases ha) (fun a ha => by cases ha) List.nodup_nil ⟨v, rfl, rfl, ?_⟩, sub, fun z => by
      funext j
      unfold ownSet
      by_cases hj : j = i
      · rw [if_pos hj, hj, z hi]
      · rw [if_neg hj]⟩
    exact Dp_mono (hide_same (Same.refl H) fun a o _ z => sub a z) _ _ q
  · refine ⟨own, ?_, fun a z => z, fun _ => rfl⟩
    rw [List.set_eq_of_length_le (by rw [E.len]; omega), List.set_eq_of_length_le (by omega)]
    exact E
theorem names_ok {Q : L2.St → Hp → Prop} {W0 : Addr → Prop} : ∀ (is : List Nat) (vs : List V) (xs : List D) (own : Nat → List Addr) (σ : L2.St) (env : Env), EnvOk K H0 H O0 own σ env → (∀ a, tO O0 own a → W0 a) → DpAll K (hide H W0) vs xs → is.length = xs.length →
    (∀ σ' own', EnvOk K H0 H O0 own' σ' (putAll is xs env) → (∀ a, tO O0 own' a → tO O0 own a) → (∀ ws, (∀ i ∈ is, i ∈ ws) → wipe σ' ws = wipe σ ws) → ((∀ i ∈ is, i < env.length → own i = []) → own' = own) → Q σ' H) → gNames is vs σ H Q
  | [], vs, xs, own, σ, env, E, sw, q, hl, h => by
    cases q with
    | nil => exact ⟨rfl, h σ own E (fun _ z => z) (fun _ _ => rfl) fun _ => rfl⟩
    | cons _ _ => cases hl
  | i :: is, vs, xs, own, σ, env, E, sw, q, hl, h => by
    cases q with
    | nil => cases hl
    | @cons v vs x xs q1 q2 =>
      obtain ⟨own', E', sub, ek⟩ := E.put i (Dp_mono (hide_same (Same.refl H) fun a o _ z => sw a z) _ _ q1)
      refine ⟨v, vs, rfl, ?_⟩
      refine names_ok is vs xs own' _ _ E' (fun a z => sw a (sub a z)) q2 (by simpa using hl) fun σ' own2 E2 sub2 hw ek2 => ?_
      refine h σ' own2 E2 (fun a z => sub a (sub2 a z)) (fun ws hi => ?_) fun z => ?_
      · rw [hw ws fun j hj => hi j (List.mem_cons_of_mem _ hj)]
        exact wipe_set_mem (hi i List.mem_cons_self)
      · have e1 := ek fun hl => z i List.mem_cons_self hl
        rw [ek2 fun j hj hl => by
          rw [List.length_set] at hl
          rw [e1]
          exact z j (List.mem_cons_of_mem _ hj) hl]
        exact e1
theorem tg_ok {Q : L2.St → Hp → Prop} (T : Tg) {x : D} {v : V} {env' : Env} (E : EnvOk K H0 H O0 own σ env) (q : Dp K (hide H (tO O0 own)) v x) (e : T.put x env = some env')
    (h : ∀ σ' own', EnvOk K H0 H O0 own' σ' env' → (∀ a, tO O0 own' a → tO O0 own a) → (∀ ws, (∀ i ∈ T.slots, i ∈ ws) → wipe σ' ws = wipe σ ws) → ((∀ i ∈ T.slots, i < env.length → own i = []) → own' = own) → Q σ' H) : T.tg K v σ H Q := by
  cases T with
  | nm i =>
    cases e
    obtain ⟨own', E', sub, ek⟩ := E.put i q
    exact h _ own' E' sub (fun ws hi => wipe_set_mem (hi i (List.mem_singleton.mpr rfl))) fun z => ek (z i (List.mem_singleton.mpr rfl))
  | tp is =>
    cases x with
    | tuple xs =>
      obtain ⟨a, vs, rfl, s, q⟩ := Dp_tup q
      unfold Tg.put at e
      dsimp only at e
      split at e
      · rename_i hl
        cases e
        refine ⟨a, vs, rfl, SqT_mono hide_sub s, by rw [DpAll_len q]; exact hl, ?_⟩
        exact names_ok is vs xs own σ env E (fun _ z => z) q hl.symm h
      · cases e
    | _ => cases e
end
/-! ### what is walked -/
/-- the walk J, begun at H1, goes over data xs, as long as what stood stands -/
def ItS (K : PySem.W.Frag) (H1 : Hp) (O : Addr → Prop) (J : It) (xs : List D) : Prop := ∀ i H2, Same H1 H2 →
  (∀ x, xs[i]? = some x → J.go i H2 ∧ ∀ v H', J.yld i H2 v H' → H' = H2 ∧ Dp K (hide H1 O) v x) ∧ (xs.length ≤ i → J.stop i H2)
/-- .. as long as what nobody owns stands -/
def ItF (K : PySem.W.Frag) (H1 : Hp) (O : Addr → Prop) (J : It) (xs : List D) : Prop := ∀ i H2 O2, Same (hide H1 O) (hide H2 O2) →
  (∀ x, xs[i]? = some x → J.go i H2 ∧ ∀ v H', J.yld i H2 v H' → H' = H2 ∧ Dp K (hide H1 O) v x) ∧ (xs.length ≤ i → J.stop i H2)
theorem ItF.s {K : PySem.W.Frag} {H1 : Hp} {O : Addr → Prop} {J : It} {xs : List D} (h : ItF K H1 O J xs) : ItS K H1 O J xs := fun i H2 s => h i H2 O (hide_same s fun _ _ _ z => z)
def HandI (K : PySem.W.Frag) (mg : Str → Option Value) (W : WX) (O : Addr → Prop) (H : Hp) (σ : L2.St) (I : Hp → It → List D → Prop) (r : R (List D)) (P : It → Hp → Prop) : Prop :=
  match r with
  | .no => False
  | .ok xs => ∀ J H1, Same H H1 → I H1 J xs → P J H1
  | .ex k fs => ∀ H' cls d, Same H H' → ExcR K mg (hide H' O) cls d k fs → W cls d σ H'
def wcD (K : PySem.W.Frag) (mg : Str → Option Value) (W : WX) (fi : Env → R (List D)) : TI := fun σ H P => ∃ H0 O0 own env, EnvOk K H0 H O0 own σ env ∧ HandI K mg W (tO O0 own) H σ (fun H1 J xs => ItS K H1 (tO O0 own) J xs) (fi env) P
def wfD (K : PySem.W.Frag) (mg : Str → Option Value) (W : WX) (fi : Env → R (List D)) : TI := fun σ H P => ∃ H0 O0 own env, EnvOk K H0 H O0 own σ env ∧ HandI K mg W (tO O0 own) H σ (fun H1 J xs => ItF K H1 (tO O0 own) J xs) (fi env) P
section
variable {X : Cx} {W : WX} {tg e l a b c : Expr} {fa fb fc : Env → R Cell} {fi : Env → R (List D)} {pos p : Pos}
theorem PI.imp {t t' : TI} (h : PI X tg l t) (i : ∀ σ H Q, t' σ H Q → t σ H Q) : PI X tg l t' := ⟨fun pins s σ H Q I q => h.run pins s σ H Q I (i _ _ _ q)⟩
theorem di_of (h : PI X tg l (wfD X.K X.mg W fi)) : PI X tg l (wcD X.K X.mg W fi) := PI.imp h fun σ H P ⟨H0, O0, own, env, E, h⟩ => by
  refine ⟨H0, O0, own, env, E, ?_⟩
  cases q : fi env with
  | no => rw [q] at h; exact h
  | ex k fs => rw [q] at h; exact h
  | ok xs =>
    rw [q] at h
    exact fun J H1 s i => h J H1 s i.s
theorem itS_l {K : PySem.W.Frag} {H1 : Hp} {O : Addr → Prop} {a : Addr} {vs : List V} {xs : List D} (s : SqL K H1 a vs) (q : DpAll K (hide H1 O) vs xs) : ItS K H1 O (Itl K a) xs := fun i H2 k => by
  refine ⟨fun x e => ?_, fun e => ⟨vs, SqL_mono k s, by rw [DpAll_len q]; exact e⟩⟩
  obtain ⟨v, e1, e2⟩ := DpAll_get q e
  refine ⟨⟨vs, v, SqL_mono k s, e1⟩, fun u H' y => ⟨y.1, ?_⟩⟩
  have e3 := y.2 vs (SqL_mono k s)
  rw [e1] at e3
  cases e3
  exact e2
theorem itS_t {K : PySem.W.Frag} {H1 : Hp} {O : Addr → Prop} {a : Addr} {vs : List V} {xs : List D} (s : SqT K H1 a vs) (q : DpAll K (hide H1 O) vs xs) : ItS K H1 O (Itt K a) xs := fun i H2 k => by
  refine ⟨fun x e => ?_, fun e => ⟨vs, SqT_mono k s, by rw [DpAll_len q]; exact e⟩⟩
  obtain ⟨v, e1, e2⟩ := DpAll_get q e
  refine ⟨⟨vs, v, SqT_mono k s, e1⟩, fun u H' y => ⟨y.1, ?_⟩⟩
  have e3 := y.2 vs (SqT_mono k s)
  rw [e1] at e3
  cases e3
  exact e2
theorem itF_l {K : PySem.W.Frag} {H1 : Hp} {O : Addr → Prop} {a : Addr} {vs : List V} {xs : List D} (s : SqL K (hide H1 O) a vs) (q : DpAll K (hide H1 O) vs xs) : ItF K H1 O (Itl K a) xs := fun i H2 O2 k => by
  have k' : Same (hide H1 O) H2 := k.trans hide_sub
  refine ⟨fun x e => ?_, fun e => ⟨vs, SqL_mono k' s, by rw [DpAll_len q]; exact e⟩⟩
  obtain ⟨v, e1, e2⟩ := DpAll_get q e
  refine ⟨⟨vs, v, SqL_mono k' s, e1⟩, fun u H' y => ⟨y.1, ?_⟩⟩
  have e3 := y.2 vs (SqL_mono k' s)
  rw [e1] at e3
  cases e3
  exact e2
theorem itF_t {K : PySem.W.Frag} {H1 : Hp} {O : Addr → Prop} {a : Addr} {vs : List V} {xs : List D} (s : SqT K (hide H1 O) a vs) (q : DpAll K (hide H1 O) vs xs) : ItF K H1 O (Itt K a) xs := fun i H2 O2 k => by
  have k' : Same (hide H1 O) H2 := k.trans hide_sub
  refine ⟨fun x e => ?_, fun e => ⟨vs, SqT_mono k' s, by rw [DpAll_len q]; exact e⟩⟩
  obtain ⟨v, e1, e2⟩ := DpAll_get q e
  refine ⟨⟨vs, v, SqT_mono k' s, e1⟩, fun u H' y => ⟨y.1, ?_⟩⟩
  have e3 := y.2 vs (SqT_mono k' s)
  rw [e1] at e3
  cases e3
  exact e2
/-- a list or a tuple that is looked at: for a comprehension -/
theorem di_seq (ha : PE X l (tpD X.K X.mg W fa)) : PI X tg l (wcD X.K X.mg W fun en => (fa en).bind itemsR) := ⟨fun pins s σ H P I ⟨H0, O0, own, env, E, h⟩ => by
  cases q : fa env with
  | no => simp only [q, R.bind_no] at h; exact h.elim
  | ex k fs =>
    simp only [q, R.bind_ex] at h
    refine (pi_list ha).run pins s σ H P I ⟨H0, O0, own, env, E, ?_⟩
    rw [q]
    exact h
  | ok c =>
    simp only [q, R.bind_ok] at h
    have look : ∀ xs, c.items = some xs → (∀ J H1, Same H H1 → ItS X.K H1 (tO O0 own) J xs → P J H1) → wpAny (model X.prog X.w) X.A (eval l X.env) (fun v s1 => wpAny (model X.prog X.w) X.A (pyIter v) (PIE X pins σ tg P) X.xe s1) X.xe s := fun xs ex h => by
      cases c with
      | un => cases ex
      | own2 _ => cases ex
      | own ys =>
        cases ex
        refine (pi_list ha).run pins s σ H P I ⟨H0, O0, own, env, E, ?_⟩
        rw [q]
        intro v H1 s1 r
        obtain ⟨a, vs, e1, e2, e3⟩ := Peek_own r
        exact ⟨a, e1, ⟨vs, SqL.of e2⟩, h _ H1 s1 (itS_l (SqL.of e2) e3)⟩
      | d y =>
        cases y with
        | list ys =>
          cases ex
          refine (pi_list ha).run pins s σ H P I ⟨H0, O0, own, env, E, ?_⟩
          rw [q]
          intro v H1 s1 r
          obtain ⟨a, vs, e1, e2, e3⟩ := Dp_seq (Peek_d r)
          exact ⟨a, e1, ⟨vs, SqL_mono hide_sub e2⟩, h _ H1 s1 (itS_l (SqL_mono hide_sub e2) e3)⟩
        | tuple ys =>
          cases ex
          refine (pi_tup ha).run pins s σ H P I ⟨H0, O0, own, env, E, ?_⟩
          rw [q]
          intro v H1 s1 r
          obtain ⟨a, vs, e1, e2, e3⟩ := Dp_tup (Peek_d r)
          exact ⟨a, e1, ⟨vs, SqT_mono hide_sub e2⟩, h _ H1 s1 (itS_t (SqT_mono hide_sub e2) e3)⟩
        | _ => cases ex
    unfold itemsR at h
    cases q2 : c.items with
    | none =>
      simp only [q2] at h
      exact h.elim
    | some xs =>
      simp only [q2] at h
      exact look xs q2 h⟩
/-- a list or a tuple, data or new: for a loop -/
theorem df_seq (ha : PE X l (teD X.K X.mg W fa)) : PI X tg l (wfD X.K X.mg W fun en => (fa en).bind itemsR) := ⟨fun pins s σ H P I ⟨H0, O0, own, env, E, h⟩ => by
  cases q : fa env with
  | no => simp only [q, R.bind_no] at h; exact h.elim
  | ex k fs =>
    simp only [q, R.bind_ex] at h
    refine (pi_list ha).run pins s σ H P I ⟨H0, O0, own, env, E, ?_⟩
    rw [q]
    exact h
  | ok c =>
    simp only [q, R.bind_ok] at h
    have big : ∀ {H1 : Hp} {os : List Addr}, Same (hide H1 (fun a => tO O0 own a ∨ a ∈ os)) (hide H1 (tO O0 own)) := fun {H1 os} => hide_same (Same.refl H1) fun _ _ _ z => .inl z
    have look : ∀ xs, c.items = some xs → (∀ J H1, Same H H1 → ItF X.K H1 (tO O0 own) J xs → P J H1) → wpAny (model X.prog X.w) X.A (eval l X.env) (fun v s1 => wpAny (model X.prog X.w) X.A (pyIter v) (PIE X pins σ tg P) X.xe s1) X.xe s := fun xs ex h => by
      cases c with
      | un => cases ex
      | own2 _ => cases ex
      | own ys =>
        cases ex
        refine (pi_list ha).run pins s σ H P I ⟨H0, O0, own, env, E, ?_⟩
        rw [q]
        intro v H1 os s1 fr nd r
        obtain ⟨a, vs, e1, eo, e2, e3⟩ := r
        have na : ¬ tO O0 own a := fun z => by
          obtain ⟨o, w⟩ := E.thereO a z
          have z2 := fr a (by rw [eo]; exact List.mem_cons_self)
          rw [w] at z2
          cases z2
        exact ⟨a, e1, ⟨vs, SqL.of e2⟩, h _ H1 s1 (itF_l (SqL.of (hide_eq.mpr ⟨na, e2⟩)) (DpAll_mono big _ _ e3))⟩
      | d y =>
        cases y with
        | list ys =>
          cases ex
          refine (pi_list ha).run pins s σ H P I ⟨H0, O0, own, env, E, ?_⟩
          rw [q]
          intro v H1 os s1 fr nd r
          obtain ⟨a, vs, e1, e2, e3⟩ := Dp_seq (Dp_mono big _ _ r.2)
          exact ⟨a, e1, ⟨vs, SqL_mono hide_sub e2⟩, h _ H1 s1 (itF_l e2 e3)⟩
        | tuple ys =>
          cases ex
          refine (pi_tup ha).run pins s σ H P I ⟨H0, O0, own, env, E, ?_⟩
          rw [q]
          intro v H1 os s1 fr nd r
          obtain ⟨a, vs, e1, e2, e3⟩ := Dp_tup (Dp_mono big _ _ r.2)
          exact ⟨a, e1, ⟨vs, SqT_mono hide_sub e2⟩, h _ H1 s1 (itF_t e2 e3)⟩
        | _ => cases ex
    unfold itemsR at h
    cases q2 : c.items with
    | none =>
      simp only [q2] at h
      exact h.elim
    | some xs =>
      simp only [q2] at h
      exact look xs q2 h⟩
theorem up_get {lo : Int} {n i : Nat} {x : D} (h : (upFrom lo n)[i]? = some x) : i < n ∧ x = .int (lo + (i : Nat)) := by
  unfold upFrom at h
  rw [List.getElem?_map, Option.map_eq_some_iff] at h
  obtain ⟨j, h1, h2⟩ := h
  obtain ⟨h3, h4⟩ := List.getElem?_eq_some_iff.mp h1
  rw [List.length_range] at h3
  rw [List.getElem_range] at h4
  subst h4
  exact ⟨h3, h2.symm⟩
theorem step_get {lo c : Int} {n i : Nat} {x : D} (h : (stepFrom lo c n)[i]? = some x) : i < n ∧ x = .int (lo + (i : Nat) * c) := by
  unfold stepFrom at h
  rw [List.getElem?_map, Option.map_eq_some_iff] at h
  obtain ⟨j, h1, h2⟩ := h
  obtain ⟨h3, h4⟩ := List.getElem?_eq_some_iff.mp h1
  rw [List.length_range] at h3
  rw [List.getElem_range] at h4
  subst h4
  exact ⟨h3, h2.symm⟩
theorem itF_r {K : PySem.W.Frag} {H1 : Hp} {O : Addr → Prop} {lo : Int} {n : Nat} : ItF K H1 O (Itr lo n) (upFrom lo n) := fun i H2 O2 k => by
  refine ⟨fun x e => ?_, fun e => ?_⟩
  · obtain ⟨h1, h2⟩ := up_get e
    refine ⟨h1, fun v H' y => ⟨y.1, ?_⟩⟩
    rw [y.2, h2]
    exact .int _
  · have z : (upFrom lo n).length = n := by unfold upFrom; simp
    rw [z] at e
    exact e
theorem itF_c {K : PySem.W.Frag} {H1 : Hp} {O : Addr → Prop} {lo c : Int} {n : Nat} : ItF K H1 O (Itc lo c n) (stepFrom lo c n) := fun i H2 O2 k => by
  refine ⟨fun x e => ?_, fun e => ?_⟩
  · obtain ⟨h1, h2⟩ := step_get e
    refine ⟨h1, fun v H' y => ⟨y.1, ?_⟩⟩
    rw [y.2, h2]
    exact .int _
  · have z : (stepFrom lo c n).length = n := by unfold stepFrom; simp
    rw [z] at e
    exact e
theorem Hand_int {mg : Str → Option Value} {W : WX} {K : PySem.W.Frag} {H' : Hp} {O : Addr → Prop} {os : List Addr} {i : Int} {v : V} (r : CellR K H' O os (.d (.int i)) v) : v = .int i := Dp_int r.2
/-- range(a) -/
theorem df_rng1 (hm : X.mg "range" = none) (ha : PE X a (teD X.K X.mg W fa)) (hg : Gl X "range" := by rfl) (hs : starEach [a] X.env = [(false, eval a X.env)] := by rfl) : PI X tg (.Call (.Name "range" p) [a] [] pos) (wfD X.K X.mg W fun en => (fa en).bind rng1D) :=
  PI.imp (pi_range1 hg hm (pa_cons ha pa_nil hs) hs) fun σ H P ⟨H0, O0, own, env, E, h⟩ => by
  refine ⟨H0, O0, own, env, E, ?_⟩
  cases q : fa env with
  | no => simp only [q, R.bind_no] at h; exact h
  | ex k fs => simp only [q, R.bind_ex] at h; exact h
  | ok c =>
    simp only [q, R.bind_ok] at h
    intro v H1 os s1 fr nd r
    unfold rng1D at h
    split at h
    · rename_i j
      have e : v = .int j := Dp_int r.2
      subst e
      split at h
      · rename_i hb
        exact ⟨j, rfl, hb.1, hb.2, h _ H1 s1 itF_r⟩
      · exact h.elim
    · exact h.elim
/-- range(a, b) -/
theorem df_rng2 (hm : X.mg "range" = none) (ha : PE X a (teD X.K X.mg W fa)) (hb : PE X b (teD X.K X.mg W fb)) (hg : Gl X "range" := by rfl) (hs : starEach [a, b] X.env = [(false, eval a X.env), (false, eval b X.env)] := by rfl) (hs2 : starEach [b] X.env = [(false, eval b X.env)] := by rfl)
    (h1 : starEach (a :: [b]) X.env = (false, eval a X.env) :: starEach [b] X.env := by rfl) : PI X tg (.Call (.Name "range" p) [a, b] [] pos) (wfD X.K X.mg W fun en => (fa en).bind fun x => (fb en).bind fun y => rng2D x y) :=
  PI.imp (pi_range2 hg hm (pa_cons ha (pa_cons hb pa_nil hs2) h1) hs hs2) fun σ H P ⟨H0, O0, own, env, E, h⟩ => by
  refine ⟨H0, O0, own, env, E, ?_⟩
  cases q : fa env with
  | no => simp only [q, R.bind_no] at h; exact h
  | ex k fs => simp only [q, R.bind_ex] at h; exact h
  | ok c =>
    simp only [q, R.bind_ok] at h
    intro v H1 os s1 fr nd r
    refine ⟨H0, O0, own, env, E.mono s1, ?_⟩
    cases q2 : fb env with
    | no => simp only [q2, R.bind_no] at h; exact h
    | ex k fs => simp only [q2, R.bind_ex] at h; exact fun H' cls d s' w => h H' cls d (s1.trans s') w
    | ok c2 =>
      simp only [q2, R.bind_ok] at h
      intro v2 H2 os2 s2 fr2 nd2 r2
      unfold rng2D at h
      split at h
      · rename_i i j
        have e : v = .int i := Dp_int r.2
        have e2 : v2 = .int j := Dp_int r2.2
        subst e e2
        split at h
        · rename_i hb
          exact ⟨i, j, rfl, hb, h _ H2 (s1.trans s2) itF_r⟩
        · exact h.elim
      · exact h.elim
/-- range(a, b, -1) -/
theorem df_rng3 (hm : X.mg "range" = none) (ha : PE X a (teD X.K X.mg W fa)) (hb : PE X b (teD X.K X.mg W fb)) (hc : PE X c (teD X.K X.mg W fc)) (hg : Gl X "range" := by rfl)
    (h1 : starEach (a :: [b, c]) X.env = (false, eval a X.env) :: starEach [b, c] X.env := by rfl) (h2 : starEach (b :: [c]) X.env = (false, eval b X.env) :: starEach [c] X.env := by rfl) (h3 : starEach (c :: []) X.env = (false, eval c X.env) :: starEach [] X.env := by rfl) (hpl : (backTo pos (starEach [b, c] X.env)).any (·.1) = false := by rfl) :
    PI X tg (.Call (.Name "range" p) [a, b, c] [] pos) (wfD X.K X.mg W fun en => (fa en).bind fun x => (fb en).bind fun y => (fc en).bind fun z => rngDownD x y z) :=
  PI.imp (pi_range3 hg hm (pa_cons ha (pa_cons hb (pa_cons hc pa_nil h3) h2) h1) h1 hpl) fun σ H P ⟨H0, O0, own, env, E, h⟩ => by
  refine ⟨H0, O0, own, env, E, ?_⟩
  cases q : fa env with
  | no => simp only [q, R.bind_no] at h; exact h
  | ex k fs => simp only [q, R.bind_ex] at h; exact h
  | ok c =>
    simp only [q, R.bind_ok] at h
    intro v H1 os s1 fr nd r
    refine ⟨H0, O0, own, env, E.mono s1, ?_⟩
    cases q2 : fb env with
    | no => simp only [q2, R.bind_no] at h; exact h
    | ex k fs => simp only [q2, R.bind_ex] at h; exact fun H' cls d s' w => h H' cls d (s1.trans s') w
    | ok c2 =>
      simp only [q2, R.bind_ok] at h
      intro v2 H2 os2 s2 fr2 nd2 r2
      refine ⟨H0, O0, own, env, E.mono (s1.trans s2), ?_⟩
      cases q3 : fc env with
      | no => simp only [q3, R.bind_no] at h; exact h
      | ex k fs => simp only [q3, R.bind_ex] at h; exact fun H' cls d s' w => h H' cls d ((s1.trans s2).trans s') w
      | ok c3 =>
        simp only [q3, R.bind_ok] at h
        intro v3 H3 os3 s3 fr3 nd3 r3
        unfold rngDownD at h
        split at h
        · rename_i i j
          have e : v = .int i := Dp_int r.2
          have e2 : v2 = .int j := Dp_int r2.2
          have e3 : v3 = .int (-1) := Dp_int r3.2
          subst e e2 e3
          split at h
          · rename_i hb
            exact ⟨i, j, -1, _, rfl, RgC.neg hb.1 hb.2.1 hb.2.2.1 hb.2.2.2, h _ H3 ((s1.trans s2).trans s3) itF_c⟩
          · exact h.elim
        · exact h.elim
end
end DL
/-! ## DL, part 7: statements, loops, a def's body -/
namespace DL
open PySem PySem.Spec PyProof.Rows L2
theorem set_self {α : Type} : ∀ {l : List α} {i : Nat} {x : α}, l[i]? = some x → l.set i x = l
  | [], _, _, h => by simp at h
  | a :: l, 0, x, h => by
    simp at h
    rw [h]
    rfl
  | a :: l, i + 1, x, h => by
    show a :: l.set i x = a :: l
    rw [set_self (by simpa using h)]
/-! ### statements -/
def OutH (K : PySem.W.Frag) (mg : Str → Option Value) (W : WX) (H0 : Hp) (O0 : Addr → Prop) (H : Hp) (O : Addr → Prop) (D : Ends) (o : Out) : Prop :=
  match o with
  | .no => False
  | .nx e => ∀ σ' H' own', EnvOk K H0 H' O0 own' σ' e → Same (hide H O) (hide H' (tO O0 own')) → D.nx σ' H'
  | .bk e => ∀ σ' H' own', EnvOk K H0 H' O0 own' σ' e → Same (hide H O) (hide H' (tO O0 own')) → D.bk σ' H'
  | .ct e => ∀ σ' H' own', EnvOk K H0 H' O0 own' σ' e → Same (hide H O) (hide H' (tO O0 own')) → D.ct σ' H'
  | .rt c => ∀ v H' os, Same H0 H' → (∀ a ∈ os, H0 a = none) → os.Nodup → CellR K H' (fun a => O0 a ∨ a ∈ os) os c v → D.rt v H'
  | .ex k fs e => ∀ σ' H' own' cls d, EnvOk K H0 H' O0 own' σ' e → Same (hide H O) (hide H' (tO O0 own')) → ExcR K mg (hide H' (tO O0 own')) cls d k fs → W cls d σ' H'
theorem OutH.mono {K : PySem.W.Frag} {mg : Str → Option Value} {W : WX} {H0 : Hp} {O0 : Addr → Prop} {H H1 : Hp} {O O1 : Addr → Prop} {D : Ends} {o : Out} (s : Same (hide H O) (hide H1 O1)) (h : OutH K mg W H0 O0 H O D o) : OutH K mg W H0 O0 H1 O1 D o := by
  cases o with
  | no => exact h
  | nx e => exact fun σ' H' own' E q => h σ' H' own' E (s.trans q)
  | bk e => exact fun σ' H' own' E q => h σ' H' own' E (s.trans q)
  | ct e => exact fun σ' H' own' E q => h σ' H' own' E (s.trans q)
  | rt c => exact h
  | ex k fs e => exact fun σ' H' own' cls d E q => h σ' H' own' cls d E (s.trans q)
theorem same_h {H H1 : Hp} {O : Addr → Prop} (s : Same H H1) : Same (hide H O) (hide H1 O) := hide_same s fun _ _ _ z => z
def tsD (K : PySem.W.Frag) (mg : Str → Option Value) (W : WX) (g : Env → Out) : TS := fun D σ H => ∃ H0 O0 own env, EnvOk K H0 H O0 own σ env ∧ OutH K mg W H0 O0 H (tO O0 own) D (g env)
section
variable {X : Cx} {W : WX} {tg e l a b c : Expr} {fa fb fc : Env → R Cell} {fi : Env → R (List D)} {ta tb : Env → R Bool} {g g1 g2 : Env → Out} {pos p p' : Pos} {st : Stmt} {sts sts2 : List Stmt}
theorem ds_nil : PSs X [] (tsD X.K X.mg W fun en => .nx en) := PSs.imp pss_nil fun D σ H ⟨H0, O0, own, env, E, h⟩ => h σ H own E (Same.refl _)
/-- the way on behind a statement -/
theorem seq_ok {K : PySem.W.Frag} {mg : Str → Option Value} : ∀ D σ H, tsD K mg W (fun en => (g1 en).andThen g2) D σ H → tSeq (tsD K mg W g1) (tsD K mg W g2) D σ H := fun D σ H ⟨H0, O0, own, env, E, h⟩ => by
  refine ⟨H0, O0, own, env, E, ?_⟩
  cases q : g1 env with
  | no => simp only [q, Out.andThen_no] at h; exact h
  | rt c => simp only [q, Out.andThen_rt] at h; exact h
  | bk e => simp only [q, Out.andThen_bk] at h; exact h
  | ct e => simp only [q, Out.andThen_ct] at h; exact h
  | ex k fs e => simp only [q, Out.andThen_ex] at h; exact h
  | nx e =>
    simp only [q, Out.andThen_nx] at h
    exact fun σ' H' own' E' s => ⟨H0, O0, own', e, E', OutH.mono s h⟩
theorem ds_cons (h1 : PS X st (tsD X.K X.mg W g1)) (h2 : PSs X sts (tsD X.K X.mg W g2)) : PSs X (st :: sts) (tsD X.K X.mg W fun en => (g1 en).andThen g2) := PSs.imp (pss_cons h1 h2) seq_ok
theorem ds_one (h1 : PS X st (tsD X.K X.mg W g1)) : PSs X [st] (tsD X.K X.mg W g1) := pss_one h1
theorem ds_pass : PS X (.Pass pos) (tsD X.K X.mg W fun en => .nx en) := PS.imp ps_pass fun D σ H ⟨H0, O0, own, env, E, h⟩ => h σ H own E (Same.refl _)
theorem ds_break : PS X (.Break pos) (tsD X.K X.mg W fun en => .bk en) := PS.imp ps_break fun D σ H ⟨H0, O0, own, env, E, h⟩ => h σ H own E (Same.refl _)
theorem ds_continue : PS X (.Continue pos) (tsD X.K X.mg W fun en => .ct en) := PS.imp ps_continue fun D σ H ⟨H0, O0, own, env, E, h⟩ => h σ H own E (Same.refl _)
/-- an exception of an expression is the statement's -/
theorem into_ex {K : PySem.W.Frag} {mg : Str → Option Value} {H0 H : Hp} {O0 : Addr → Prop} {own : Nat → List Addr} {σ : L2.St} {env : Env} {D : Ends} {k : Str} {fs : List (Str × PyData)} (E : EnvOk K H0 H O0 own σ env) (h : OutH K mg W H0 O0 H (tO O0 own) D (.ex k fs env)) :
    ∀ H' cls d, Same H H' → ExcR K mg (hide H' (tO O0 own)) cls d k fs → W cls d σ H' := fun H' cls d s w => h σ H' own cls d (E.mono s) (same_h s) w
theorem ds_expr (ha : PE X a (teD X.K X.mg W fa)) (hs : swapsWith a none pos.line X.env = pure false := by rfl) : PS X (.Expr a pos) (tsD X.K X.mg W fun en => (fa en).into en fun _ => .nx en) := PS.imp (ps_expr ha hs) fun D σ H ⟨H0, O0, own, env, E, h⟩ => by
  refine ⟨H0, O0, own, env, E, ?_⟩
  cases q : fa env with
  | no => simp only [q, R.into_no] at h; exact h
  | ex k fs => simp only [q, R.into_ex] at h; exact into_ex E h
  | ok c =>
    simp only [q, R.into_ok] at h
    exact fun v H' os s _ _ r => h σ H' own (E.mono s) (same_h s)
theorem ds_ret (ha : PE X a (teD X.K X.mg W fa)) : PS X (.Return (some a) pos) (tsD X.K X.mg W fun en => (fa en).into en .rt) := PS.imp (ps_ret ha) fun D σ H ⟨H0, O0, own, env, E, h⟩ => by
  refine ⟨H0, O0, own, env, E, ?_⟩
  cases q : fa env with
  | no => simp only [q, R.into_no] at h; exact h
  | ex k fs => simp only [q, R.into_ex] at h; exact into_ex E h
  | ok c =>
    simp only [q, R.into_ok] at h
    intro v H' os s fr nd r
    refine h v H' os (E.same.trans s) (fun a ha => E.same.free (fr a ha)) nd (CellR_mono (Same.refl H') (fun a o _ z => ?_) r)
    rcases z with z | z
    · exact .inl (.inl z)
    · exact .inr z
/-- return x, x in slot i: what it owns is handed out -/
def outC (c : Cell) : Out := match c with
  | .un => .no
  | c => .rt c
theorem ds_retV (i : Nat) {x : Str} (hN : X.N[i]? = some x := by rfl) (hv : Vis X.env.scope x := by first | exact Or.inl rfl | exact Or.inr (Or.inl rfl) | exact Or.inr (Or.inr rfl)) (hd : (x == ("__debug__" : Str)) = false := by decide)
    (hcd : (x == ("__classdict__" : Str)) = false := by decide) : PS X (.Return (some (.Name x p)) pos) (tsD X.K X.mg W fun en => (getC i en).into en .rt) := PS.imp (ps_ret (pe_var hN hv hd hcd)) fun D σ H ⟨H0, O0, own, env, E, h⟩ => by
  unfold getC at h
  cases q : env[i]? with
  | none => simp only [q, R.into_no] at h; exact h.elim
  | some c =>
    by_cases n : c = .un
    · subst n
      simp only [q, R.into_no] at h
      exact h.elim
    · obtain ⟨v, e1, e2⟩ := E.get q n
      have h' : OutH X.K X.mg W H0 O0 H (tO O0 own) D (.rt c) := by
        cases c with
        | un => exact absurd rfl n
        | d _ => simp only [q, R.into_ok] at h; exact h
        | own _ => simp only [q, R.into_ok] at h; exact h
        | own2 _ => simp only [q, R.into_ok] at h; exact h
      refine ⟨v, e1, h' v H (own i) E.same (fun a ha => E.fresh i a ha) (E.nd i) (CellR_mono (Same.refl H) (fun a o _ z => ?_) e2)⟩
      rcases z with z | z
      · exact .inl z
      · exact .inr ⟨i, z⟩
theorem ds_retN : PS X (.Return none pos) (tsD X.K X.mg W fun en => .rt (.d .none)) := PS.imp ps_retN fun D σ H ⟨H0, O0, own, env, E, h⟩ => h .non H [] E.same (fun a ha => by cases ha) List.nodup_nil ⟨rfl, .non⟩
theorem ds_if (hc : PT X c (ttD X.K X.mg W ta)) (h1 : PSs X sts (tsD X.K X.mg W g1)) (h2 : PSs X sts2 (tsD X.K X.mg W g2)) : PS X (.If c sts sts2 pos) (tsD X.K X.mg W fun en => (ta en).into en fun b => if b = true then g1 en else g2 en) := PS.imp (ps_if hc h1 h2) fun D σ H ⟨H0, O0, own, env, E, h⟩ => by
  refine ⟨H0, O0, own, env, E, ?_⟩
  cases q : ta env with
  | no => simp only [q, R.into_no] at h; exact h
  | ex k fs => simp only [q, R.into_ex] at h; exact into_ex E h
  | ok b =>
    simp only [q, R.into_ok] at h
    intro H' s
    cases b with
    | true =>
      rw [if_pos rfl] at h ⊢
      exact ⟨H0, O0, own, env, E.mono s, OutH.mono (same_h s) h⟩
    | false =>
      rw [if_neg Bool.false_ne_true] at h ⊢
      exact ⟨H0, O0, own, env, E.mono s, OutH.mono (same_h s) h⟩
/-- the slot's own list is from now on data -/
theorem freeze_ok {K : PySem.W.Frag} {H0 H : Hp} {O0 : Addr → Prop} {own : Nat → List Addr} {σ : L2.St} {env : Env} (E : EnvOk K H0 H O0 own σ env) (i : Nat) : ∃ own', EnvOk K H0 H O0 own' σ (freeze i env) ∧ Same (hide H (tO O0 own)) (hide H (tO O0 own')) := by
  unfold freeze
  cases q : env[i]? with
  | none => exact ⟨own, E, Same.refl _⟩
  | some c =>
    dsimp only
    have hi : i < env.length := (List.getElem?_eq_some_iff.mp q).1
    by_cases n : c = .un ∨ ∃ x, c = .d x
    · have e : env.set i (freezeC c) = env := by
        rcases n with rfl | ⟨x, rfl⟩
        · exact set_self q
        · exact set_self q
      rw [e]
      exact ⟨own, E, Same.refl _⟩
    · have n1 : c ≠ .un := fun z => n (.inl z)
      obtain ⟨v, e1, e2⟩ := E.get q n1
      have sub : ∀ a, tO O0 (ownSet own i []) a → tO O0 own a := fun a z => by
        rcases z with z | ⟨j, z⟩
        · exact .inl z
        · unfold ownSet at z
          by_cases hj : j = i
          · rw [if_pos hj] at z
            cases z
          · rw [if_neg hj] at z
            exact .inr ⟨j, z⟩
      have nown : ∀ a ∈ own i, ¬ tO O0 (ownSet own i []) a := fun a ha z => by
        rcases z with z | ⟨j, z⟩
        · obtain ⟨o, w⟩ := E.o0 a z
          rw [E.fresh i a ha] at w
          cases w
        · unfold ownSet at z
          by_cases hj : j = i
          · rw [if_pos hj] at z
            cases z
          · rw [if_neg hj] at z
            exact E.dj i j a (Ne.symm hj) ha z
      have sm : Same (hide H (tO O0 own)) (hide H (tO O0 (ownSet own i []))) := hide_same (Same.refl H) fun a o _ z => sub a z
      obtain ⟨x, hx, hd⟩ : ∃ x, freezeC c = .d x ∧ Dp K (hide H (tO O0 (ownSet own i []))) v x := by
        have r2 : CellR K H (fun a => tO O0 (ownSet own i []) a ∨ a ∈ own i) (own i) c v := CellR_mono (Same.refl H) (fun a o _ z => by
          rcases z with z | z
          · exact sub a z
          · exact .inr ⟨i, z⟩) e2
        cases c with
        | un => exact absurd rfl n1
        | d x => exact absurd (.inr ⟨x, rfl⟩) n
        | own xs => exact ⟨_, rfl, CellR_dat nown r2 rfl⟩
        | own2 xss => exact ⟨_, rfl, CellR_dat nown r2 rfl⟩
      refine ⟨ownSet own i [], ?_, sm⟩
      rw [hx]
      have w := E.set (c := .d x) (x := some v) (os := []) hi E.same (fun _ _ e _ => e) (fun _ _ _ _ _ e => e) (fun a ha => by cases ha) (fun a ha => by cases ha) (fun a ha => by cases ha) List.nodup_nil ⟨v, rfl, rfl, hd⟩
      have e3 : σ.set i (some v) = σ := set_self e1
      rw [e3] at w
      exact w
def freezeAll : List Nat → Env → Env
  | [], e => e
  | i :: is, e => freezeAll is (freeze i e)
theorem freezeAll_ok {K : PySem.W.Frag} {H0 H : Hp} {O0 : Addr → Prop} {σ : L2.St} : ∀ (is : List Nat) {own : Nat → List Addr} {env : Env}, EnvOk K H0 H O0 own σ env → ∃ own', EnvOk K H0 H O0 own' σ (freezeAll is env) ∧ Same (hide H (tO O0 own)) (hide H (tO O0 own'))
  | [], own, env, E => ⟨own, E, Same.refl _⟩
  | i :: is, own, env, E => by
    obtain ⟨own1, E1, s1⟩ := freeze_ok E i
    obtain ⟨own2, E2, s2⟩ := freezeAll_ok is E1
    exact ⟨own2, E2, s1.trans s2⟩
/-- ahead of a statement the slots is are frozen -/
theorem ds_frz (is : List Nat) (h : PS X st (tsD X.K X.mg W g)) : PS X st (tsD X.K X.mg W fun en => g (freezeAll is en)) := PS.imp h fun D σ H ⟨H0, O0, own, env, E, h⟩ => by
  obtain ⟨own', E', s⟩ := freezeAll_ok is E
  exact ⟨H0, O0, own', _, E', OutH.mono s h⟩
/-- x = e, x in slot i -/
theorem store_new {K : PySem.W.Frag} {H0 H H' : Hp} {O0 : Addr → Prop} {own : Nat → List Addr} {σ : L2.St} {env : Env} {i : Nat} {os : List Addr} {c : Cell} {v : V} (E : EnvOk K H0 H O0 own σ env) (hi : i < env.length) (s : Same H H') (fr : ∀ a ∈ os, H a = none) (nd : os.Nodup) (r : CellR K H' (fun a => tO O0 own a ∨ a ∈ os) os c v) :
    EnvOk K H0 H' O0 (ownSet own i os) (σ.set i (some v)) (env.set i c) ∧ Same (hide H (tO O0 own)) (hide H' (tO O0 (ownSet own i os))) := by
  have r' : CellR K H' (tO O0 (ownSet own i os)) os c v := CellR_mono (Same.refl H') (fun a o _ z => by
    rcases z with z | ⟨j, z⟩
    · exact .inl (.inl z)
    · unfold ownSet at z
      by_cases hj : j = i
      · rw [if_pos hj] at z
        exact .inr z
      · rw [if_neg hj] at z
        exact .inl (.inr ⟨j, z⟩)) r
  refine ⟨E.set (c := c) (x := some v) hi (E.same.trans s) (fun a o e _ => s a o e) (fun _ a o _ _ e => s a o e) (fun a ha => CellR_there r a ha) (fun a ha => E.same.free (fr a ha)) (fun a ha => .inl (fr a ha)) nd ?_, hide_set (fun a o e _ => s a o e) fun a ha => .inl (fr a ha)⟩
  cases c with
  | un => exact r.elim
  | d _ => exact ⟨v, rfl, r'⟩
  | own _ => exact ⟨v, rfl, r'⟩
  | own2 _ => exact ⟨v, rfl, r'⟩
def setR (i : Nat) (en : Env) (c : Cell) : Out := if i < en.length then .nx (en.set i c) else .no
theorem ds_set {i : Nat} {x : Str} (hN : X.N.Nodup) (ha : PE X a (teD X.K X.mg W fa)) (hi : X.N[i]? = some x := by rfl) (hx : Loc X.env.scope x := by first | exact Or.inl rfl | exact Or.inr rfl) (hs : swapsWith a (some (.Name x p')) pos.line X.env = pure false := by rfl) (hf : X.fn x = true ∨ X.env.scope.names.lookup x = some .local := by first | exact .inl rfl | exact .inr rfl) :
    PS X (.Assign [.Name x p'] a pos) (tsD X.K X.mg W fun en => (fa en).into en (setR i en)) := PS.imp (ps_set hN hi hx ha hs hf) fun D σ H ⟨H0, O0, own, env, E, h⟩ => by
  refine ⟨H0, O0, own, env, E, ?_⟩
  cases q : fa env with
  | no => simp only [q, R.into_no] at h; exact h
  | ex k fs => simp only [q, R.into_ex] at h; exact into_ex E h
  | ok c =>
    simp only [q, R.into_ok] at h
    unfold setR at h
    intro v H' os s fr nd r
    split at h
    · rename_i hl
      obtain ⟨E', s'⟩ := store_new E hl s fr nd r
      exact h _ H' _ E' s'
    · exact h.elim
/-- a, b = e -/
def unpR (is : List Nat) (en : Env) (c : Cell) : Out := match c with
  | .d x => match (Tg.tp is).put x en with
    | some e' => .nx e'
    | none => .no
  | _ => .no
theorem ds_unp {is : List Nat} {es : List Expr} {k : Nat} {tp : Pos} (hg : PG X (.Tuple es k tp) ((Tg.tp is).tg X.K)) (ha : PE X a (teD X.K X.mg W fa)) (hs : swapsWithSole [.Tuple es k tp] a pos.line X.env = pure false := by rfl) (hw : swappedStores [.Tuple es k tp] a X.env = pure none := by rfl)
    (h1 : (assignEach [.Tuple es k tp] X.env).map (·.2) = [assign (.Tuple es k tp) X.env] := by rfl) : PS X (.Assign [.Tuple es k tp] a pos) (tsD X.K X.mg W fun en => (fa en).into en (unpR is en)) := PS.imp (ps_asg ha hg hs hw h1) fun D σ H ⟨H0, O0, own, env, E, h⟩ => by
  refine ⟨H0, O0, own, env, E, ?_⟩
  cases q : fa env with
  | no => simp only [q, R.into_no] at h; exact h
  | ex k fs => simp only [q, R.into_ex] at h; exact into_ex E h
  | ok c =>
    simp only [q, R.into_ok] at h
    unfold unpR at h
    intro v H' os s fr nd r
    split at h
    · rename_i x
      split at h
      · rename_i e' he
        have hd : Dp X.K (hide H' (tO O0 own)) v x := Dp_mono (hide_same (Same.refl H') fun _ _ _ z => .inl z) _ _ r.2
        exact tg_ok (Tg.tp is) (E.mono s) hd he fun σ' own' E' sub _ _ => h σ' H' own' E' ((same_h s).trans (hide_same (Same.refl H') fun a o _ z => sub a z))
      · exact h.elim
    · exact h.elim
/-! ### own lists are changed -/
/-- xs.append(e), xs in slot i -/
def ownAt (i : Nat) (en : Env) (f : List PyData → Out) : Out := match en[i]? with
  | some (.own xs) => f xs
  | _ => .no
def own2At (i : Nat) (en : Env) (f : List (List PyData) → Out) : Out := match en[i]? with
  | some (.own2 xs) => f xs
  | _ => .no
theorem own_upd {K : PySem.W.Frag} {H0 H : Hp} {O0 : Addr → Prop} {own : Nat → List Addr} {σ : L2.St} {env : Env} {i : Nat} {xs ys : List PyData} {al : Addr} {vs us : List V} (E : EnvOk K H0 H O0 own σ env) (q : env[i]? = some (.own xs)) (e1 : σ[i]? = some (some (.ref al))) (eo : own i = [al]) (e2 : H al = some (.lst vs))
    (r : DpAll K (hide H (tO O0 own)) us ys) : EnvOk K H0 (upd H al (.lst us)) O0 own σ (env.set i (.own ys)) ∧ Same (hide H (tO O0 own)) (hide (upd H al (.lst us)) (tO O0 own)) := by
  have hi : i < env.length := (List.getElem?_eq_some_iff.mp q).1
  have mem : al ∈ own i := by rw [eo]; exact List.mem_cons_self
  have s0 : ∀ a o, a ≠ al → H a = some o → upd H al (.lst us) a = some o := fun a o n e => by rw [upd_ne n]; exact e
  have h0 : Same H0 (upd H al (.lst us)) := fun a o e => s0 a o (fun z => by
    rw [z, E.fresh i al mem] at e
    cases e) (E.same a o e)
  have n1 : ∀ a o, H a = some o → ¬ tO O0 own a → upd H al (.lst us) a = some o := fun a o e n => s0 a o (fun z => n (by rw [z]; exact .inr ⟨i, mem⟩)) e
  have eqo : ownSet own i (own i) = own := by
    funext j
    unfold ownSet
    by_cases hj : j = i
    · rw [if_pos hj, hj]
    · rw [if_neg hj]
  have sm : Same (hide H (tO O0 own)) (hide (upd H al (.lst us)) (tO O0 own)) := fun a o e => by
    obtain ⟨n, e⟩ := hide_eq.mp e
    exact hide_eq.mpr ⟨n, n1 a o e n⟩
  have w := E.set (c := .own ys) (x := some (.ref al)) (os := own i) (H' := upd H al (.lst us)) hi h0 n1 (fun j a o hj ha e => s0 a o (fun z => E.dj i j al (Ne.symm hj) mem (by rw [← z]; exact ha)) e) (fun a ha => by
      rw [eo] at ha
      rw [List.mem_singleton.mp ha]
      exact ⟨_, upd_same⟩) (fun a ha => E.fresh i a ha) (fun a ha => .inr ha) (E.nd i) ⟨.ref al, rfl, al, us, rfl, eo, upd_same, by
        rw [eqo]
        exact DpAll_mono sm _ _ r⟩
  rw [eqo] at w
  have e3 : σ.set i (some (.ref al)) = σ := set_self e1
  rw [e3] at w
  exact ⟨w, sm⟩
/-- behind the reading of data: the slot's own list -/
theorem own_at {K : PySem.W.Frag} {H0 H : Hp} {O0 : Addr → Prop} {own : Nat → List Addr} {σ : L2.St} {env : Env} {i : Nat} {xs : List PyData} (E : EnvOk K H0 H O0 own σ env) (q : env[i]? = some (.own xs)) : ∃ al vs, σ[i]? = some (some (.ref al)) ∧ own i = [al] ∧ H al = some (.lst vs) ∧ DpAll K (hide H (tO O0 own)) vs xs := by
  obtain ⟨v, e1, al, vs, rfl, eo, e2, e3⟩ := E.get q (fun z => by cases z)
  exact ⟨al, vs, e1, eo, e2, e3⟩
theorem ownAt_some {K : PySem.W.Frag} {mg : Str → Option Value} {H0 H : Hp} {O0 O : Addr → Prop} {i : Nat} {en : Env} {f : List PyData → Out} {D : Ends} (h : OutH K mg W H0 O0 H O D (ownAt i en f)) : ∃ xs, en[i]? = some (.own xs) ∧ OutH K mg W H0 O0 H O D (f xs) := by
  unfold ownAt at h
  split at h
  · rename_i xs e
    exact ⟨xs, e, h⟩
  · exact h.elim
theorem own2At_some {K : PySem.W.Frag} {mg : Str → Option Value} {H0 H : Hp} {O0 O : Addr → Prop} {i : Nat} {en : Env} {f : List (List PyData) → Out} {D : Ends} (h : OutH K mg W H0 O0 H O D (own2At i en f)) : ∃ xs, en[i]? = some (.own2 xs) ∧ OutH K mg W H0 O0 H O D (f xs) := by
  unfold own2At at h
  split at h
  · rename_i xs e
    exact ⟨xs, e, h⟩
  · exact h.elim
/-- data in what nobody owns, behind an expression -/
theorem dat_at {K : PySem.W.Frag} {H0 H H' : Hp} {O0 : Addr → Prop} {own : Nat → List Addr} {σ : L2.St} {env : Env} {os : List Addr} {c : Cell} {v : V} {d : PyData} (E : EnvOk K H0 H O0 own σ env) (fr : ∀ a ∈ os, H a = none) (r : CellR K H' (fun a => tO O0 own a ∨ a ∈ os) os c v) (e : asD c = .ok d) : Dp K (hide H' (tO O0 own)) v d :=
  CellR_dat (fun a ha z => by
    obtain ⟨o, e⟩ := E.thereO a z
    rw [fr a ha] at e
    cases e) r e
/-- xs.append(e), xs in slot i -/
theorem ds_app (i : Nat) {x : Str} {np ap : Pos} (pe : PE X (.Call (.Attribute (.Name x np) "append" ap) [a] [] pos) (tBM X.K "list" rAppend (tVar i) (tCons (teD X.K X.mg W fa) tNil)))
    (hs : swapsWith (.Call (.Attribute (.Name x np) "append" ap) [a] [] pos) none p.line X.env = pure false := by rfl) :
    PS X (.Expr (.Call (.Attribute (.Name x np) "append" ap) [a] [] pos) p) (tsD X.K X.mg W fun en => ownAt i en fun xs => ((fa en).bind asD).into en fun d => if xs.length < 16777216 then .nx (en.set i (.own (xs ++ [d]))) else .no) := PS.imp (ps_expr pe hs) fun D σ H ⟨H0, O0, own, env, E, h⟩ => by
  obtain ⟨xs, q, h⟩ := ownAt_some h
  obtain ⟨al, vs, e1, eo, e2, e3⟩ := own_at E q
  refine ⟨.ref al, e1, .inl ⟨rfl, vs, SqL.of e2⟩, H0, O0, own, env, E, ?_⟩
  cases q2 : fa env with
  | no => simp only [q2, R.bind_no, R.into_no] at h; exact h
  | ex k fs => simp only [q2, R.bind_ex, R.into_ex] at h; exact into_ex E h
  | ok c =>
    simp only [q2, R.bind_ok] at h
    intro v H' os s fr nd r
    cases q3 : asD c with
    | no => simp only [q3, R.into_no] at h; exact h.elim
    | ex k fs => exact (asD_ex q3).elim
    | ok d =>
      simp only [q3, R.into_ok] at h
      split at h
      · rename_i hl
        have hd := dat_at E fr r q3
        obtain ⟨E', s'⟩ := own_upd (E.mono s) q e1 eo (s _ _ e2) (DpAll_append (DpAll_mono (same_h s) _ _ e3) (.cons hd .nil))
        exact ⟨al, vs, v, rfl, rfl, s _ _ e2, by rw [DpAll_len e3, sizeLine_eq]; exact hl, h _ _ own E' ((same_h s).trans s')⟩
      · exact h.elim
/-- xs[k] = e, xs in slot i -/
theorem ixN_of {n : Nat} {i : Int} {j : Nat} (h : ixN n i = some j) : j < n := (ixN_seq h).2.1
def setAt {α : Type} (xs : List α) (i : Int) (x : α) : Option (List α) := (ixN xs.length i).map fun j => xs.set j x
def cellI (c : Cell) : R Int := match c with
  | .d (.int i) => .ok i
  | _ => .no
theorem cellI_ok {K : PySem.W.Frag} {H : Hp} {O : Addr → Prop} {os : List Addr} {c : Cell} {v : V} {i : Int} (h : cellI c = .ok i) (r : CellR K H O os c v) : v = .int i := by
  unfold cellI at h
  split at h
  · cases h
    exact Dp_int r.2
  · cases h
theorem cellI_ex {c : Cell} {k : Str} {fs : List (Str × PyData)} (h : cellI c = .ex k fs) : False := by
  unfold cellI at h
  split at h <;> cases h
theorem ds_setI (i : Nat) {sp : Pos} {o : Expr} (pg : PG X (.Subscript o b sp) (gSub (tVar i) (teD X.K X.mg W fb) rSetL)) (ha : PE X a (teD X.K X.mg W fa)) (hs : swapsWithSole [.Subscript o b sp] a pos.line X.env = pure false := by rfl) (hw : swappedStores [.Subscript o b sp] a X.env = pure none := by rfl)
    (h1 : (assignEach [.Subscript o b sp] X.env).map (·.2) = [assign (.Subscript o b sp) X.env] := by rfl) :
    PS X (.Assign [.Subscript o b sp] a pos) (tsD X.K X.mg W fun en => ((fa en).bind asD).into en fun d => ownAt i en fun xs => ((fb en).bind cellI).into en fun k => match setAt xs k d with | some ys => .nx (en.set i (.own ys)) | none => .no) :=
  PS.imp (ps_asg ha pg hs hw h1) fun D σ H ⟨H0, O0, own, env, E, h⟩ => by
  refine ⟨H0, O0, own, env, E, ?_⟩
  cases q : fa env with
  | no => simp only [q, R.bind_no, R.into_no] at h; exact h
  | ex k fs => simp only [q, R.bind_ex, R.into_ex] at h; exact into_ex E h
  | ok c =>
    simp only [q, R.bind_ok] at h
    intro v H' os s fr nd r
    cases q3 : asD c with
    | no => simp only [q3, R.into_no] at h; exact h.elim
    | ex k fs => exact (asD_ex q3).elim
    | ok d =>
      simp only [q3, R.into_ok] at h
      have hd := dat_at E fr r q3
      obtain ⟨xs, q4, h⟩ := ownAt_some h
      obtain ⟨al, vs, e1, eo, e2, e3⟩ := own_at E q4
      refine ⟨.ref al, e1, H0, O0, own, env, E.mono s, ?_⟩
      cases q2 : fb env with
      | no => simp only [q2, R.bind_no, R.into_no] at h; exact h
      | ex k fs => simp only [q2, R.bind_ex, R.into_ex] at h; exact into_ex (E.mono s) (OutH.mono (same_h s) h)
      | ok c2 =>
        simp only [q2, R.bind_ok] at h
        intro u H2 os2 s2 fr2 nd2 r2
        cases q5 : cellI c2 with
        | no => simp only [q5, R.into_no] at h; exact h.elim
        | ex k fs => exact (cellI_ex q5).elim
        | ok k =>
          simp only [q5, R.into_ok] at h
          have eu := cellI_ok q5 r2
          subst eu
          unfold setAt at h
          cases q6 : ixN xs.length k with
          | none =>
            rw [q6] at h
            exact h.elim
          | some j =>
            rw [q6] at h
            have h : OutH X.K X.mg W H0 O0 H (tO O0 own) D (.nx (env.set i (.own (xs.set j d)))) := h
            have ss := s.trans s2
            obtain ⟨E', s'⟩ := own_upd (E.mono ss) q4 e1 eo (ss _ _ e2) (DpAll_set (Dp_mono (same_h s2) _ _ hd) j (DpAll_mono (same_h ss) _ _ e3))
            exact ⟨al, vs, k, j, rfl, rfl, ss _ _ e2, by rw [DpAll_len e3]; exact q6, h _ _ own E' ((same_h ss).trans s')⟩
/-- x += e -/
theorem ds_aug (i : Nat) {x : Str} {op : Operator} {f : Int → Int → Int} (hN : X.N.Nodup) (ha : PE X a (teD X.K X.mg W fa)) (ho : PIp X op (ipI f)) (hi : X.N[i]? = some x := by rfl) (hx : Loc X.env.scope x := by first | exact Or.inl rfl | exact Or.inr rfl) (hf : X.fn x = true ∨ X.env.scope.names.lookup x = some .local := by first | exact .inl rfl | exact .inr rfl) :
    PS X (.AugAssign (.Name x p') op a pos) (tsD X.K X.mg W fun en => ((getC i en).bind cellI).into en fun k => ((fa en).bind cellI).into en fun z => .nx (en.set i (.d (.int (f k z))))) := PS.imp (ps_aug hN hi hx ha ho hf) fun D σ H ⟨H0, O0, own, env, E, h⟩ => by
  have hx : ∃ k, env[i]? = some (.d (.int k)) ∧ OutH X.K X.mg W H0 O0 H (tO O0 own) D (((fa env).bind cellI).into env fun z => .nx (env.set i (.d (.int (f k z))))) := by
    unfold getC at h
    cases q : env[i]? with
    | none => simp only [q, R.bind_no, R.into_no] at h; exact h.elim
    | some c =>
      cases c with
      | un => simp only [q, R.bind_no, R.into_no] at h; exact h.elim
      | own _ => simp only [q, R.bind_ok, cellI, R.into_no] at h; exact h.elim
      | own2 _ => simp only [q, R.bind_ok, cellI, R.into_no] at h; exact h.elim
      | d y =>
        cases y with
        | int k =>
          simp only [q, R.bind_ok, cellI, R.into_ok] at h
          exact ⟨k, rfl, h⟩
        | _ => simp only [q, R.bind_ok, cellI, R.into_no] at h; exact h.elim
  obtain ⟨k, q, h⟩ := hx
  obtain ⟨v, e1, e2⟩ := E.get q (fun z => by cases z)
  have ev : v = .int k := Dp_int e2.2
  subst ev
  refine ⟨.int k, e1, H0, O0, own, env, E, ?_⟩
  cases q2 : fa env with
  | no => simp only [q2, R.bind_no, R.into_no] at h; exact h
  | ex k fs => simp only [q2, R.bind_ex, R.into_ex] at h; exact into_ex E h
  | ok c =>
    simp only [q2, R.bind_ok] at h
    intro u H' os s fr nd r
    cases q3 : cellI c with
    | no => simp only [q3, R.into_no] at h; exact h.elim
    | ex k fs => exact (cellI_ex q3).elim
    | ok z =>
      simp only [q3, R.into_ok] at h
      have eu := cellI_ok q3 r
      subst eu
      obtain ⟨own', E', sub, _⟩ := (E.mono s).put i (x := .int (f k z)) (v := .int (f k z)) (.int _)
      exact ⟨k, z, rfl, rfl, h _ H' own' E' ((same_h s).trans (hide_same (Same.refl H') fun a o _ w => sub a w))⟩
/-! ### loops -/
theorem ds_for {T : Tg} (hp : PassesOwn (model X.prog X.w) X.A X.env X.xe) (hc : X.calm = true) (hi : PI X tg l (wfD X.K X.mg W fi)) (hg : PG X tg (T.tg X.K)) (hb : PSs X sts (tsD X.K X.mg W g)) (hs : ∀ x, foldedSetIterable l X.env x = pure x := by intro _; rfl) :
    PS X (.For tg l sts [] pos) (tsD X.K X.mg W fun en => (fi en).into en fun xs => forD (turnD T g) xs en) := PS.imp (ps_for hp hc hi hg hb hs) fun D σ H ⟨H0, O0, own, env, E, h⟩ => by
  refine ⟨H0, O0, own, env, E, ?_⟩
  cases q : fi env with
  | no => simp only [q, R.into_no] at h; exact h
  | ex k fs => simp only [q, R.into_ex] at h; exact into_ex E h
  | ok xs =>
    simp only [q, R.into_ok] at h
    intro J H1 s it
    refine ⟨fun i m σ2 H2 => m = xs.length - i ∧ i ≤ xs.length ∧ ∃ own2 env2, EnvOk X.K H0 H2 O0 own2 σ2 env2 ∧ Same (hide H1 (tO O0 own)) (hide H2 (tO O0 own2)) ∧ OutH X.K X.mg W H0 O0 H2 (tO O0 own2) D (forD (turnD T g) (xs.drop i) env2),
      ⟨xs.length, by simp, Nat.zero_le _, own, env, E.mono s, Same.refl _, OutH.mono (same_h s) h⟩, ?_⟩
    rintro i m σ2 H2 ⟨rfl, hi, own2, env2, E2, s2, h2⟩
    obtain ⟨i1, i2⟩ := it i H2 _ s2
    by_cases hlt : i < xs.length
    · obtain ⟨x, hx⟩ : ∃ x, xs[i]? = some x := ⟨_, List.getElem?_eq_getElem hlt⟩
      obtain ⟨j1, j2⟩ := i1 x hx
      have ed : xs.drop i = x :: xs.drop (i + 1) := by
        rw [List.drop_eq_getElem_cons hlt]
        rw [List.getElem?_eq_getElem hlt] at hx
        rw [Option.some.inj hx]
      rw [ed] at h2
      have h3 : OutH X.K X.mg W H0 O0 H2 (tO O0 own2) D (match turnD T g x env2 with
        | .nx e' => forD (turnD T g) (xs.drop (i + 1)) e'
        | .ct e' => forD (turnD T g) (xs.drop (i + 1)) e'
        | .bk e' => .nx e'
        | o => o) := h2
      refine .inr ⟨j1, fun σ' H' => ∃ own', ∃ env', EnvOk X.K H0 H' O0 own' σ' env' ∧ Same (hide H1 (tO O0 own)) (hide H' (tO O0 own')) ∧ OutH X.K X.mg W H0 O0 H' (tO O0 own') D (forD (turnD T g) (xs.drop (i + 1)) env'), fun σ' H' hN => ⟨xs.length - (i + 1), by omega, rfl, hlt, hN⟩, fun v H' y => ?_⟩
      obtain ⟨rfl, hv⟩ := j2 v H' y
      have hv2 : Dp X.K (hide H' (tO O0 own2)) v x := Dp_mono s2 _ _ hv
      unfold turnD at h3
      cases q5 : T.put x env2 with
      | none =>
        simp only [q5] at h3
        exact h3.elim
      | some e' =>
        simp only [q5] at h3
        refine tg_ok T E2 hv2 q5 fun σ3 own3 E3 sub3 _ _ => ⟨H0, O0, own3, e', E3, ?_⟩
        have s3 : Same (hide H' (tO O0 own2)) (hide H' (tO O0 own3)) := hide_same (Same.refl H') fun a o _ z => sub3 a z
        cases q6 : g e' with
        | no => simp only [q6] at h3; exact h3
        | rt c => simp only [q6] at h3; exact h3
        | bk e2 => simp only [q6] at h3; exact OutH.mono s3 h3
        | ex k fs e2 => simp only [q6] at h3; exact OutH.mono s3 h3
        | nx e2 =>
          simp only [q6] at h3
          exact fun σ4 H4 own4 E4 s4 => ⟨own4, e2, E4, (s2.trans s3).trans s4, OutH.mono (s3.trans s4) h3⟩
        | ct e2 =>
          simp only [q6] at h3
          exact fun σ4 H4 own4 E4 s4 => ⟨own4, e2, E4, (s2.trans s3).trans s4, OutH.mono (s3.trans s4) h3⟩
    · have e : i = xs.length := by omega
      subst e
      rw [List.drop_length] at h2
      exact .inl ⟨i2 (Nat.le_refl _), h2 σ2 H2 own2 E2 (Same.refl _)⟩
theorem ds_while (fuel : Nat) (hp : PassesOwn (model X.prog X.w) X.A X.env X.xe) (hc : PT X c (ttD X.K X.mg W ta)) (hb : PSs X sts (tsD X.K X.mg W g)) : PS X (.While c sts [] pos) (tsD X.K X.mg W fun en => whileD ta g fuel en) := PS.imp (ps_while hp hc hb) fun D σ H ⟨H0, O0, own, env, E, h⟩ => by
  refine ⟨fun m σ2 H2 => ∃ own2, ∃ env2, EnvOk X.K H0 H2 O0 own2 σ2 env2 ∧ OutH X.K X.mg W H0 O0 H2 (tO O0 own2) D (whileD ta g m env2), ⟨fuel, own, env, E, h⟩, ?_⟩
  rintro m σ2 H2 ⟨own2, env2, E2, h2⟩
  refine ⟨H0, O0, own2, env2, E2, ?_⟩
  cases m with
  | zero => exact h2.elim
  | succ m =>
    unfold whileD at h2
    cases q : ta env2 with
    | no => simp only [q, R.into_no] at h2; exact h2
    | ex k fs => simp only [q, R.into_ex] at h2; exact into_ex E2 h2
    | ok b =>
      simp only [q, R.into_ok] at h2
      intro H3 s3
      cases b with
      | false =>
        rw [if_neg Bool.false_ne_true] at h2 ⊢
        exact h2 σ2 H3 own2 (E2.mono s3) (same_h s3)
      | true =>
        rw [if_pos rfl] at h2 ⊢
        refine ⟨fun σ' H' => ∃ own', ∃ env', EnvOk X.K H0 H' O0 own' σ' env' ∧ OutH X.K X.mg W H0 O0 H' (tO O0 own') D (whileD ta g m env'), fun σ' H' hN => ⟨m, Nat.lt_succ_self m, hN⟩, H0, O0, own2, env2, E2.mono s3, ?_⟩
        have sh := same_h (O := tO O0 own2) s3
        cases q6 : g env2 with
        | no => simp only [q6] at h2; exact h2
        | rt c => simp only [q6] at h2; exact h2
        | bk e2 => simp only [q6] at h2; exact OutH.mono sh h2
        | ex k fs e2 => simp only [q6] at h2; exact OutH.mono sh h2
        | nx e2 =>
          simp only [q6] at h2
          exact fun σ4 H4 own4 E4 s4 => ⟨own4, e2, E4, OutH.mono (sh.trans s4) h2⟩
        | ct e2 =>
          simp only [q6] at h2
          exact fun σ4 H4 own4 E4 s4 => ⟨own4, e2, E4, OutH.mono (sh.trans s4) h2⟩
end
end DL
/-! ## DL, part 8: comprehensions, tables, reversed, a def's body -/
namespace DL
open PySem PySem.Spec PyProof.Rows L2
section
variable {X : Cx} {W : WX} {tg e l a b c elt : Expr} {fa fb fc fe : Env → R Cell} {fi : Env → R (List D)} {ta tb : Env → R Bool} {g g1 g2 : Env → Out} {pos p p' : Pos} {st : Stmt} {sts sts2 : List Stmt}
/-- reversed(range(a)) -/
theorem df_rev1 {q q' : Pos} (hm : X.mg "reversed" = none) (hm2 : X.mg "range" = none) (ha : PE X a (teD X.K X.mg W fa)) (hg : Gl X "reversed" := by rfl) (hg2 : Gl X "range" := by rfl) (na : starEach [a] X.env = (false, eval a X.env) :: starEach [] X.env := by rfl)
    (hs : starEach [.Call (.Name "range" q) [a] [] q'] X.env = (false, eval (.Call (.Name "range" q) [a] [] q') X.env) :: starEach [] X.env := by rfl) : PI X tg (.Call (.Name "reversed" p) [.Call (.Name "range" q) [a] [] q'] [] pos) (wfD X.K X.mg W fun en => (fa en).bind rngRevD) :=
  PI.imp (pi_revR hg hm (prg_1 hg2 hm2 ha na) hs) fun σ H P ⟨H0, O0, own, env, E, h⟩ => by
  refine ⟨H0, O0, own, env, E, ?_⟩
  cases q : fa env with
  | no => simp only [q, R.bind_no] at h; exact h
  | ex k fs => simp only [q, R.bind_ex] at h; exact h
  | ok c =>
    simp only [q, R.bind_ok] at h
    intro v H1 os s1 fr nd r
    unfold rngRevD at h
    split at h
    · rename_i j
      have e : v = .int j := Dp_int r.2
      subst e
      split at h
      · rename_i hb
        refine ⟨j, rfl, by decide, by decide, hb.1, hb.2, h _ H1 s1 itF_c⟩
      · exact h.elim
    · exact h.elim
/-! ### comprehensions -/
theorem wipe_get {σ : L2.St} {i : Nat} : ∀ {vs : List Nat}, (wipe σ vs)[i]? = if i ∈ vs then (if i < σ.length then some none else none) else σ[i]?
  | [] => by simp [wipe]
  | v :: vs => by
    unfold wipe
    by_cases hv : i = v
    · subst hv
      by_cases hl : i < σ.length
      · rw [List.getElem?_set_self (by rw [wipe_length]; exact hl)]
        simp [hl]
      · rw [List.getElem?_eq_none (by rw [List.length_set, wipe_length]; omega)]
        simp [hl]
    · rw [List.getElem?_set_ne (Ne.symm hv), wipe_get]
      simp [hv]
theorem wipe_twice {σ : L2.St} {vs : List Nat} : wipe (wipe σ vs) vs = wipe σ vs := by
  refine List.ext_getElem? fun i => ?_
  rw [wipe_get, wipe_get, wipe_length]
  by_cases h : i ∈ vs
  · simp [h]
  · simp [h]
def ownMove (own : Nat → List Addr) (i n : Nat) : Nat → List Addr := fun j => if j = n then own n ++ own i else if j = i then [] else own j
theorem tO_move {O0 : Addr → Prop} {own : Nat → List Addr} {i n : Nat} {a : Addr} : tO O0 (ownMove own i n) a ↔ tO O0 own a := by
  unfold tO ownMove
  constructor
  · rintro (h | ⟨j, h⟩)
    · exact .inl h
    · by_cases hj : j = n
      · rw [if_pos hj] at h
        rcases List.mem_append.mp h with h | h
        · exact .inr ⟨n, h⟩
        · exact .inr ⟨i, h⟩
      · rw [if_neg hj] at h
        by_cases hi : j = i
        · rw [if_pos hi] at h
          cases h
        · rw [if_neg hi] at h
          exact .inr ⟨j, h⟩
  · rintro (h | ⟨j, h⟩)
    · exact .inl h
    · by_cases hj : j = n
      · exact .inr ⟨n, by rw [if_pos rfl, ← hj]; exact List.mem_append_left _ h⟩
      · by_cases hi : j = i
        · exact .inr ⟨n, by rw [if_pos rfl, ← hi]; exact List.mem_append_right _ h⟩
        · exact .inr ⟨j, by rw [if_neg hj, if_neg hi]; exact h⟩
/-- the slots vs forgotten: what they own is kept aside -/
theorem wipe_ok {K : PySem.W.Frag} {H0 H : Hp} {O0 : Addr → Prop} {own : Nat → List Addr} {σ : L2.St} {env : Env} (E : EnvOk K H0 H O0 own σ env) : ∀ vs : List Nat, ∃ own', EnvOk K H0 H O0 own' (wipe σ vs) (wipeC env vs) ∧ (∀ a, tO O0 own' a ↔ tO O0 own a) ∧ (wipeC env vs).length = env.length ∧ ∀ i ∈ vs, i < env.length → own' i = []
  | [] => ⟨own, E, fun _ => Iff.rfl, rfl, fun i h => (by cases h)⟩
  | i :: vs => by
    obtain ⟨own', E', eo, el, em⟩ := wipe_ok E vs
    by_cases hi : i < env.length
    · have hn : i ≠ env.length := Nat.ne_of_lt hi
      have hd : Same (hide H (tO O0 own')) (hide H (tO O0 (ownMove own' i env.length))) := hide_same (Same.refl H) fun a o _ z => tO_move.mp z
      refine ⟨ownMove own' i env.length, ⟨E'.same, by unfold wipe wipeC; rw [List.length_set, List.length_set]; exact E'.len, fun j c e => ?_, fun j a h => ?_, fun j => ?_, fun j k a hjk h1 h2 => ?_, fun j a h => ?_, E'.o0⟩, fun a => tO_move.trans (eo a), by unfold wipeC; rw [List.length_set]; exact el, fun j hj hl => ?_⟩
      · unfold wipeC at e
        unfold wipe
        by_cases hj : j = i
        · subst hj
          rw [List.getElem?_set_self (by rw [el]; exact hi)] at e
          cases e
          exact trivial
        · rw [List.getElem?_set_ne (Ne.symm hj)] at e ⊢
          have hjn : j ≠ env.length := fun z => by
            rw [z, List.getElem?_eq_none (by rw [el]; exact Nat.le_refl _)] at e
            cases e
          have e2 : ownMove own' i env.length j = own' j := by
            unfold ownMove
            rw [if_neg hjn, if_neg hj]
          rw [e2]
          exact SlotR_mono (Same.refl H) (fun a o _ z => tO_move.mp z) (E'.cell j c e)
      · unfold ownMove at h
        by_cases hj : j = env.length
        · rw [if_pos hj] at h
          rcases List.mem_append.mp h with h | h
          · exact E'.th _ a h
          · exact E'.th _ a h
        · rw [if_neg hj] at h
          by_cases hji : j = i
          · rw [if_pos hji] at h
            cases h
          · rw [if_neg hji] at h
            exact E'.th j a h
      · unfold ownMove
        by_cases hj : j = env.length
        · rw [if_pos hj]
          exact List.nodup_append.mpr ⟨E'.nd _, E'.nd _, fun a h1 b h2 z => E'.dj _ i a (Ne.symm hn) h1 (by rw [z]; exact h2)⟩
        · rw [if_neg hj]
          by_cases hji : j = i
          · rw [if_pos hji]
            exact List.nodup_nil
          · rw [if_neg hji]
            exact E'.nd j
      · unfold ownMove at h1 h2
        by_cases hj : j = env.length
        · have hk : k ≠ env.length := fun z => hjk (hj.trans z.symm)
          rw [if_pos hj] at h1
          rw [if_neg hk] at h2
          by_cases hki : k = i
          · rw [if_pos hki] at h2
            cases h2
          · rw [if_neg hki] at h2
            rcases List.mem_append.mp h1 with h1 | h1
            · exact E'.dj _ k a (Ne.symm hk) h1 h2
            · exact E'.dj i k a (Ne.symm hki) h1 h2
        · rw [if_neg hj] at h1
          by_cases hji : j = i
          · rw [if_pos hji] at h1
            cases h1
          · rw [if_neg hji] at h1
            by_cases hk : k = env.length
            · rw [if_pos hk] at h2
              rcases List.mem_append.mp h2 with h2 | h2
              · exact E'.dj j _ a hj h1 h2
              · exact E'.dj j i a hji h1 h2
            · rw [if_neg hk] at h2
              by_cases hki : k = i
              · rw [if_pos hki] at h2
                cases h2
              · rw [if_neg hki] at h2
                exact E'.dj j k a hjk h1 h2
      · unfold ownMove at h
        by_cases hj : j = env.length
        · rw [if_pos hj] at h
          rcases List.mem_append.mp h with h | h
          · exact E'.fresh _ a h
          · exact E'.fresh _ a h
        · rw [if_neg hj] at h
          by_cases hji : j = i
          · rw [if_pos hji] at h
            cases h
          · rw [if_neg hji] at h
            exact E'.fresh j a h
      · unfold ownMove
        rw [if_neg (Nat.ne_of_lt hl)]
        by_cases hji : j = i
        · rw [if_pos hji]
        · rw [if_neg hji]
          rcases List.mem_cons.mp hj with z | z
          · exact absurd z hji
          · exact em j z hl
    · refine ⟨own', ?_, eo, by unfold wipeC; rw [List.length_set]; exact el, fun j hj hl => ?_⟩
      · unfold wipe wipeC
        rw [List.set_eq_of_length_le (by rw [E'.len, el]; omega), List.set_eq_of_length_le (by rw [el]; omega)]
        exact E'
      · rcases List.mem_cons.mp hj with z | z
        · exact absurd (by rw [← z]; exact hl) hi
        · exact em j z hl
/-- objects that belong to the block -/
def ownX (own : Nat → List Addr) (n : Nat) (os : List Addr) : Nat → List Addr := fun j => if j = n then own n ++ os else own j
theorem tO_X {O0 : Addr → Prop} {own : Nat → List Addr} {n : Nat} {os : List Addr} {a : Addr} : tO O0 (ownX own n os) a ↔ tO O0 own a ∨ a ∈ os := by
  unfold tO ownX
  constructor
  · rintro (h | ⟨j, h⟩)
    · exact .inl (.inl h)
    · by_cases hj : j = n
      · rw [if_pos hj] at h
        rcases List.mem_append.mp h with h | h
        · exact .inl (.inr ⟨n, h⟩)
        · exact .inr h
      · rw [if_neg hj] at h
        exact .inl (.inr ⟨j, h⟩)
  · rintro ((h | ⟨j, h⟩) | h)
    · exact .inl h
    · refine .inr ⟨j, ?_⟩
      by_cases hj : j = n
      · rw [if_pos hj, ← hj]
        exact List.mem_append_left _ h
      · rw [if_neg hj]
        exact h
    · exact .inr ⟨n, by rw [if_pos rfl]; exact List.mem_append_right _ h⟩
theorem hide_X {H : Hp} {O0 : Addr → Prop} {own : Nat → List Addr} {n : Nat} {os : List Addr} : hide H (tO O0 (ownX own n os)) = hide H (fun a => tO O0 own a ∨ a ∈ os) := by
  have e : tO O0 (ownX own n os) = fun a => tO O0 own a ∨ a ∈ os := by
    funext a
    exact propext tO_X
  rw [e]
theorem block_ok {K : PySem.W.Frag} {H0 H H1 : Hp} {O0 : Addr → Prop} {own : Nat → List Addr} {σ : L2.St} {env : Env} {os : List Addr} (E : EnvOk K H0 H O0 own σ env) (s : Same H H1) (fr : ∀ a ∈ os, H a = none) (th : ∀ a ∈ os, ∃ o, H1 a = some o) (nd : os.Nodup) : EnvOk K H0 H1 O0 (ownX own env.length os) σ env := by
  have E1 := E.mono s
  have dis : ∀ j a, a ∈ own j → a ∉ os := fun j a h z => by
    obtain ⟨o, e⟩ := E.th j a h
    rw [fr a z] at e
    cases e
  have sm : Same (hide H (tO O0 own)) (hide H1 (tO O0 (ownX own env.length os))) := fun a o e => by
    obtain ⟨n, e⟩ := hide_eq.mp e
    refine hide_eq.mpr ⟨fun z => ?_, s _ _ e⟩
    rcases tO_X.mp z with z | z
    · exact n z
    · rw [fr a z] at e
      cases e
  refine ⟨E1.same, E1.len, fun i c e => ?_, fun i a h => ?_, fun i => ?_, fun i j a hij h1 h2 => ?_, fun i a h => ?_, E.o0⟩
  · have hi : i ≠ env.length := fun z => by
      rw [z, List.getElem?_eq_none (Nat.le_refl _)] at e
      cases e
    have eo : ownX own env.length os i = own i := if_neg hi
    rw [eo]
    exact SlotR_mono s (fun a o q z => by
      rcases tO_X.mp z with z | z
      · exact z
      · rw [fr a z] at q
        cases q) (E.cell i c e)
  · unfold ownX at h
    by_cases hi : i = env.length
    · rw [if_pos hi] at h
      rcases List.mem_append.mp h with h | h
      · exact E1.th _ _ h
      · exact th a h
    · rw [if_neg hi] at h
      exact E1.th i a h
  · unfold ownX
    by_cases hi : i = env.length
    · rw [if_pos hi]
      exact List.nodup_append.mpr ⟨E.nd _, nd, fun a h1 b h2 z => dis _ a h1 (by rw [z]; exact h2)⟩
    · rw [if_neg hi]
      exact E.nd i
  · unfold ownX at h1 h2
    by_cases hi : i = env.length
    · have hj : j ≠ env.length := fun z => hij (hi.trans z.symm)
      rw [if_pos hi] at h1
      rw [if_neg hj] at h2
      rcases List.mem_append.mp h1 with h1 | h1
      · exact E.dj _ j a (Ne.symm hj) h1 h2
      · exact dis j a h2 h1
    · rw [if_neg hi] at h1
      by_cases hj : j = env.length
      · rw [if_pos hj] at h2
        rcases List.mem_append.mp h2 with h2 | h2
        · exact E.dj i _ a hi h1 h2
        · exact dis i a h1 h2
      · rw [if_neg hj] at h2
        exact E.dj i j a hij h1 h2
  · unfold ownX at h
    by_cases hi : i = env.length
    · rw [if_pos hi] at h
      rcases List.mem_append.mp h with h | h
      · exact E.fresh _ a h
      · exact E.same.free (fr a h)
    · rw [if_neg hi] at h
      exact E.fresh i a h
theorem mapR_ok {α β : Type} {f : α → R β} {x : α} {xs : List α} {zs : List β} (h : mapR f (x :: xs) = .ok zs) : ∃ y ys, f x = .ok y ∧ mapR f xs = .ok ys ∧ zs = y :: ys := by
  unfold mapR at h
  cases q : f x with
  | no => rw [q] at h; cases h
  | ex k fs => rw [q] at h; cases h
  | ok y =>
    rw [q] at h
    cases q2 : mapR f xs with
    | no => rw [q2] at h; cases h
    | ex k fs => rw [q2] at h; cases h
    | ok ys =>
      rw [q2] at h
      cases h
      exact ⟨y, ys, rfl, rfl, rfl⟩
theorem mapIf_ok {α β : Type} {t : α → R Bool} {f : α → R β} {x : α} {xs : List α} {zs : List β} (h : mapIf t f (x :: xs) = .ok zs) : (t x = .ok false ∧ mapIf t f xs = .ok zs) ∨ ∃ y ys, t x = .ok true ∧ f x = .ok y ∧ mapIf t f xs = .ok ys ∧ zs = y :: ys := by
  unfold mapIf at h
  cases q : t x with
  | no => rw [q] at h; cases h
  | ex k fs => rw [q] at h; cases h
  | ok b =>
    rw [q] at h
    cases b with
    | false => exact .inl ⟨rfl, h⟩
    | true =>
      simp only [R.bind_ok, if_true] at h
      cases q1 : f x with
      | no => rw [q1] at h; cases h
      | ex k fs => rw [q1] at h; cases h
      | ok y =>
        rw [q1] at h
        cases q2 : mapIf t f xs with
        | no => simp only [R.bind_ok, q2, R.bind_no] at h; cases h
        | ex k fs => simp only [R.bind_ok, q2, R.bind_ex] at h; cases h
        | ok ys =>
          simp only [R.bind_ok, q2] at h
          cases h
          exact .inr ⟨y, ys, rfl, rfl, rfl, rfl⟩
/-- no exception leaves a comprehension's block -/
abbrev W0 : WX := fun _ _ _ _ => False
/-- the tests of a comprehension -/
theorem dts_nil : PTs X [] (ttD X.K X.mg W fun _ => .ok true) := ⟨fun pins s σ H Q I ⟨H0, O0, own, env, E, h⟩ => pts_nil.run pins s σ H Q I (h H (Same.refl H))⟩
theorem dts_one (h : PT X c (ttD X.K X.mg W ta)) : PTs X [c] (ttD X.K X.mg W ta) := pts_one h
/-- [elt for tg in l if ..], a list of data -/
theorem lc_dat {K : PySem.W.Frag} {mg : Str → Option Value} {vs : List Nat} {T : Tg} (hT : ∀ i ∈ T.slots, i ∈ vs) : ∀ σ H Q, teD K mg W (fun en => (fi en).bind fun xs => lcL (lcD vs T ta fe xs en)) σ H Q → tLc (wcD K mg W fi) (T.tg K) (ttD K mg W0 ta) (teD K mg W0 fe) vs σ H Q := fun σ H Q ⟨H0, O0, own, env, E, h⟩ => by
  refine ⟨H0, O0, own, env, E, ?_⟩
  cases q : fi env with
  | no => simp only [q, R.bind_no] at h; exact h
  | ex k fs => simp only [q, R.bind_ex] at h; exact h
  | ok xs =>
    simp only [q, R.bind_ok] at h
    intro J H1 s1 it A hA
    unfold lcL at h
    cases q2 : lcD vs T ta fe xs env with
    | no => simp only [q2] at h; exact h.elim
    | ex k fs => simp only [q2] at h; exact h.elim
    | ok cs =>
      simp only [q2] at h
      cases q3 : mapR asD cs with
      | no => simp only [q3] at h; exact h.elim
      | ex k fs => simp only [q3] at h; exact h.elim
      | ok ds =>
        simp only [q3] at h
        split at h
        · rename_i hl
          have hn : H A = none := s1.free hA
          refine ⟨fun i m H2 => m = xs.length - i ∧ i ≤ xs.length ∧ ∃ acc ys cs2 zs, Same H1 H2 ∧ H2 A = some (.lst acc) ∧ DpAll K (hide H2 (fun a => tO O0 own a ∨ a ∈ [A])) acc ys ∧ lcD vs T ta fe (xs.drop i) env = .ok cs2 ∧ mapR asD cs2 = .ok zs ∧ ys ++ zs = ds,
            ⟨xs.length, by simp, Nat.zero_le _, [], [], cs, ds, fun b o e => by rw [upd_ne (ne_of_none e hA)]; exact e, upd_same, .nil, q2, q3, rfl⟩, ?_⟩
          rintro i m H2 ⟨rfl, hi, acc, ys, cs2, zs, s2, eA, r, h3, h4, h5⟩
          obtain ⟨i1, i2⟩ := it i H2 s2
          by_cases hlt : i < xs.length
          · obtain ⟨x, hx⟩ : ∃ x, xs[i]? = some x := ⟨_, List.getElem?_eq_getElem hlt⟩
            obtain ⟨j1, j2⟩ := i1 x hx
            have ed : xs.drop i = x :: xs.drop (i + 1) := by
              rw [List.drop_eq_getElem_cons hlt]
              rw [List.getElem?_eq_getElem hlt] at hx
              rw [Option.some.inj hx]
            rw [ed] at h3
            refine .inr ⟨j1, fun H' => ∃ acc' ys' cs' zs', Same H1 H' ∧ H' A = some (.lst acc') ∧ DpAll K (hide H' (fun a => tO O0 own a ∨ a ∈ [A])) acc' ys' ∧ lcD vs T ta fe (xs.drop (i + 1)) env = .ok cs' ∧ mapR asD cs' = .ok zs' ∧ ys' ++ zs' = ds, fun H' hN => ⟨xs.length - (i + 1), by omega, rfl, hlt, hN⟩, fun v H' y => ?_⟩
            obtain ⟨rfl, hv⟩ := j2 v H' y
            have E2 : EnvOk K H0 H' O0 (ownX own env.length [A]) σ env := block_ok E (s1.trans s2) (fun a ha => by rw [List.mem_singleton.mp ha]; exact hn) (fun a ha => by rw [List.mem_singleton.mp ha]; exact ⟨_, eA⟩) (by simp)
            obtain ⟨own3, E3, eo3, el3, em3⟩ := wipe_ok E2 vs
            have hv2 : Dp K (hide H' (tO O0 own3)) v x := Dp_mono (fun b o w => by
              obtain ⟨n, w⟩ := hide_eq.mp w
              refine hide_eq.mpr ⟨fun z => ?_, s2 _ _ w⟩
              rcases tO_X.mp ((eo3 _).mp z) with z | z
              · exact n z
              · rw [List.mem_singleton.mp z, hA] at w
                cases w) _ _ hv
            have h3' := mapIf_ok h3
            cases q5 : T.put x (wipeC env vs) with
            | none =>
              simp only [q5] at h3'
              rcases h3' with ⟨z, _⟩ | ⟨_, _, z, _⟩ <;> cases z
            | some e' =>
              simp only [q5] at h3'
              refine tg_ok T E3 hv2 q5 fun σ3 own4 E4 sub3 hw ek => ⟨(hw vs hT).trans wipe_twice, H0, O0, own4, e', E4, ?_⟩
              have e4 : own4 = own3 := ek fun i hi hl => em3 i (hT i hi) (by rw [el3] at hl; exact hl)
              subst e4
              have seen : ∀ {H4 : Hp}, Same H' H4 → DpAll K (hide H4 (fun a => tO O0 own a ∨ a ∈ [A])) acc ys := fun s4 => DpAll_mono (same_h s4) _ _ r
              rcases h3' with ⟨t1, t2⟩ | ⟨c', cs', t1, t2, t3, t4⟩
              · rw [t1]
                intro H4 s4
                rw [if_neg Bool.false_ne_true]
                exact ⟨acc, ys, cs2, zs, s2.trans s4, s4 _ _ eA, seen s4, t2, h4, h5⟩
              · rw [t1]
                intro H4 s4
                rw [if_pos rfl]
                refine ⟨H0, O0, own4, e', E4.mono s4, ?_⟩
                rw [t2]
                intro u H5 os s5 fr5 nd5 r5
                subst t4
                obtain ⟨d', zs', z1, z2, z3⟩ := mapR_ok h4
                subst z3
                have s45 := s4.trans s5
                have hd : Dp K (hide H5 (tO O0 own4)) u d' := dat_at (E4.mono s4) fr5 r5 z1
                -- what the element leans on: neither owned by the frame nor the new list
                have hd2 : Dp K (hide H5 (fun a => tO O0 own a ∨ a ∈ [A])) u d' := Dp_mono (hide_same (Same.refl H5) fun a o _ z => (eo3 a).mpr (tO_X.mpr z)) _ _ hd
                have n : acc.length < sizeLine := by
                  rw [DpAll_len r, sizeLine_eq]
                  have : ys.length + (zs'.length + 1) = ds.length := by rw [← h5, List.length_append, List.length_cons]
                  omega
                refine ⟨acc, s45 _ _ eA, n, acc ++ [u], ys ++ [d'], cs', zs', fun b o w => ?_, upd_same, ?_, t3, z2, by rw [List.append_assoc]; exact h5⟩
                · rw [upd_ne (ne_of_none w hA)]
                  exact (s2.trans s45) _ _ w
                · have up : Same (hide H5 (fun a => tO O0 own a ∨ a ∈ [A])) (hide (upd H5 A (.lst (acc ++ [u]))) (fun a => tO O0 own a ∨ a ∈ [A])) := fun b o w => by
                    obtain ⟨w1, w2⟩ := hide_eq.mp w
                    refine hide_eq.mpr ⟨w1, ?_⟩
                    rw [upd_ne fun z => w1 (.inr (by rw [z]; exact List.mem_cons_self))]
                    exact w2
                  exact DpAll_mono up _ _ (DpAll_append (seen s45) (.cons hd2 .nil))
          · have e : i = xs.length := by omega
            subst e
            rw [List.drop_length] at h3
            cases h3
            cases h4
            rw [List.append_nil] at h5
            subst h5
            refine .inl ⟨i2 (Nat.le_refl _), h (.ref A) H2 [A] (s1.trans s2) (fun a ha => by rw [List.mem_singleton.mp ha]; exact hn) (by simp) ⟨A, acc, rfl, rfl, eA, r⟩⟩
        · exact h.elim
theorem asRow_ok {cell : Cell} {xs : List D} (h : asRow cell = .ok xs) : cell = .own xs := by
  unfold asRow at h
  split at h
  · cases h
    rfl
  · cases h
theorem RowsR_append {K : PySem.W.Frag} {H : Hp} {O : Addr → Prop} {bl : Addr} {ys : List D} (z : ∃ vs, H bl = some (.lst vs) ∧ DpAll K (hide H O) vs ys) : ∀ {as : List Addr} {xss : List (List D)}, RowsR K H O as xss → RowsR K H O (as ++ [bl]) (xss ++ [ys])
  | [], [], _ => ⟨z, trivial⟩
  | _ :: _, _ :: _, ⟨q, r⟩ => ⟨q, RowsR_append z r⟩
  | [], _ :: _, r => r.elim
  | _ :: _, [], r => r.elim
theorem RowsR_up {K : PySem.W.Frag} {H H' : Hp} {O O' : Addr → Prop} (s : Same (hide H O) (hide H' O')) : ∀ {as : List Addr} {xss : List (List D)}, (∀ a ∈ as, ∀ o, H a = some o → H' a = some o) → RowsR K H O as xss → RowsR K H' O' as xss
  | [], [], _, _ => trivial
  | a :: as, _ :: _, k, ⟨⟨vs, e, q⟩, r⟩ => ⟨⟨vs, k a List.mem_cons_self _ e, DpAll_mono s _ _ q⟩, RowsR_up s (fun b hb => k b (List.mem_cons_of_mem _ hb)) r⟩
  | [], _ :: _, _, r => r.elim
  | _ :: _, [], _, r => r.elim
/-- [elt for tg in l if ..], a list of own lists -/
theorem lc_row {K : PySem.W.Frag} {mg : Str → Option Value} {vs : List Nat} {T : Tg} (hT : ∀ i ∈ T.slots, i ∈ vs) : ∀ σ H Q, teD K mg W (fun en => (fi en).bind fun xs => lcR (lcD vs T ta fe xs en)) σ H Q → tLc (wcD K mg W fi) (T.tg K) (ttD K mg W0 ta) (teD K mg W0 fe) vs σ H Q := fun σ H Q ⟨H0, O0, own, env, E, h⟩ => by
  refine ⟨H0, O0, own, env, E, ?_⟩
  cases q : fi env with
  | no => simp only [q, R.bind_no] at h; exact h
  | ex k fs => simp only [q, R.bind_ex] at h; exact h
  | ok xs =>
    simp only [q, R.bind_ok] at h
    intro J H1 s1 it A hA
    unfold lcR at h
    cases q2 : lcD vs T ta fe xs env with
    | no => simp only [q2] at h; exact h.elim
    | ex k fs => simp only [q2] at h; exact h.elim
    | ok cs =>
      simp only [q2] at h
      cases q3 : mapR asRow cs with
      | no => simp only [q3] at h; exact h.elim
      | ex k fs => simp only [q3] at h; exact h.elim
      | ok ds =>
        simp only [q3] at h
        split at h
        · rename_i hl
          have hn : H A = none := s1.free hA
          refine ⟨fun i m H2 => m = xs.length - i ∧ i ≤ xs.length ∧ ∃ (as : List Addr) (ys : List (List D)) (cs2 : List Cell) (zs : List (List D)), Same H1 H2 ∧ (∀ b ∈ as, H1 b = none) ∧ (A :: as).Nodup ∧ H2 A = some (.lst (as.map V.ref)) ∧ RowsR K H2 (fun a => tO O0 own a ∨ a ∈ A :: as) as ys ∧ lcD vs T ta fe (xs.drop i) env = .ok cs2 ∧ mapR asRow cs2 = .ok zs ∧ ys ++ zs = ds,
            ⟨xs.length, by simp, Nat.zero_le _, [], [], cs, ds, fun b o e => by rw [upd_ne (ne_of_none e hA)]; exact e, fun b hb => (by cases hb), by simp, upd_same, trivial, q2, q3, rfl⟩, ?_⟩
          rintro i m H2 ⟨rfl, hi, as, ys, cs2, zs, s2, fa, nda, eA, r, h3, h4, h5⟩
          obtain ⟨i1, i2⟩ := it i H2 s2
          have fr : ∀ b ∈ A :: as, H1 b = none := fun b hb => by
            rcases List.mem_cons.mp hb with z | z
            · rw [z]; exact hA
            · exact fa b z
          by_cases hlt : i < xs.length
          · obtain ⟨x, hx⟩ : ∃ x, xs[i]? = some x := ⟨_, List.getElem?_eq_getElem hlt⟩
            obtain ⟨j1, j2⟩ := i1 x hx
            have ed : xs.drop i = x :: xs.drop (i + 1) := by
              rw [List.drop_eq_getElem_cons hlt]
              rw [List.getElem?_eq_getElem hlt] at hx
              rw [Option.some.inj hx]
            rw [ed] at h3
            refine .inr ⟨j1, fun H' => ∃ (as : List Addr) (ys : List (List D)) (cs2 : List Cell) (zs : List (List D)), Same H1 H' ∧ (∀ b ∈ as, H1 b = none) ∧ (A :: as).Nodup ∧ H' A = some (.lst (as.map V.ref)) ∧ RowsR K H' (fun a => tO O0 own a ∨ a ∈ A :: as) as ys ∧ lcD vs T ta fe (xs.drop (i + 1)) env = .ok cs2 ∧ mapR asRow cs2 = .ok zs ∧ ys ++ zs = ds, fun H' hN => ⟨xs.length - (i + 1), by omega, rfl, hlt, hN⟩, fun v H' y => ?_⟩
            obtain ⟨rfl, hv⟩ := j2 v H' y
            have E2 : EnvOk K H0 H' O0 (ownX own env.length (A :: as)) σ env := block_ok E (s1.trans s2) (fun a ha => s1.free (fr a ha)) (fun a ha => by
              rcases List.mem_cons.mp ha with z | z
              · rw [z]; exact ⟨_, eA⟩
              · exact RowsR_there r a z) nda
            obtain ⟨own3, E3, eo3, el3, em3⟩ := wipe_ok E2 vs
            have hv2 : Dp K (hide H' (tO O0 own3)) v x := Dp_mono (fun b o w => by
              obtain ⟨n, w⟩ := hide_eq.mp w
              refine hide_eq.mpr ⟨fun z => ?_, s2 _ _ w⟩
              rcases tO_X.mp ((eo3 _).mp z) with z | z
              · exact n z
              · rw [fr _ z] at w
                cases w) _ _ hv
            have h3' := mapIf_ok h3
            cases q5 : T.put x (wipeC env vs) with
            | none =>
              simp only [q5] at h3'
              rcases h3' with ⟨z, _⟩ | ⟨_, _, z, _⟩ <;> cases z
            | some e' =>
              simp only [q5] at h3'
              refine tg_ok T E3 hv2 q5 fun σ3 own4 E4 sub3 hw ek => ⟨(hw vs hT).trans wipe_twice, H0, O0, own4, e', E4, ?_⟩
              have e4 : own4 = own3 := ek fun i hi hl => em3 i (hT i hi) (by rw [el3] at hl; exact hl)
              subst e4
              have seen : ∀ {H4 : Hp}, Same H' H4 → RowsR K H4 (fun a => tO O0 own a ∨ a ∈ A :: as) as ys := fun s4 => RowsR_mono s4 (fun _ _ _ z => z) r
              rcases h3' with ⟨t1, t2⟩ | ⟨c', cs', t1, t2, t3, t4⟩
              · rw [t1]
                intro H4 s4
                rw [if_neg Bool.false_ne_true]
                exact ⟨as, ys, cs2, zs, s2.trans s4, fa, nda, s4 _ _ eA, seen s4, t2, h4, h5⟩
              · rw [t1]
                intro H4 s4
                rw [if_pos rfl]
                refine ⟨H0, O0, own4, e', E4.mono s4, ?_⟩
                rw [t2]
                intro u H5 os s5 fr5 nd5 r5
                subst t4
                obtain ⟨d', zs', z1, z2, z3⟩ := mapR_ok h4
                subst z3
                have s45 := s4.trans s5
                have ec := asRow_ok z1
                subst ec
                obtain ⟨bl, ws, rfl, eo, eb, rb⟩ := r5
                have nb : H4 bl = none := fr5 bl (by rw [eo]; exact List.mem_cons_self)
                have n : (as.map V.ref).length < sizeLine := by
                  rw [List.length_map, RowsR_len r, sizeLine_eq]
                  have : ys.length + (zs'.length + 1) = ds.length := by rw [← h5, List.length_append, List.length_cons]
                  omega
                have nA : bl ≠ A := fun z => by
                  rw [z, s4 _ _ eA] at nb
                  cases nb
                have nas : bl ∉ as := fun z => by
                  obtain ⟨o, w⟩ := RowsR_there r bl z
                  rw [s4 _ _ w] at nb
                  cases nb
                have up : Same (hide H5 (fun a => tO O0 own a ∨ a ∈ A :: as)) (hide (upd H5 A (.lst (as.map V.ref ++ [V.ref bl]))) (fun a => tO O0 own a ∨ a ∈ A :: as)) := fun b o w => by
                  obtain ⟨w1, w2⟩ := hide_eq.mp w
                  refine hide_eq.mpr ⟨w1, ?_⟩
                  rw [upd_ne fun z => w1 (.inr (by rw [z]; exact List.mem_cons_self))]
                  exact w2
                have less : ∀ a, (tO O0 own a ∨ a ∈ A :: as) ∨ a = bl → tO O0 own a ∨ a ∈ A :: (as ++ [bl]) := fun a z => by
                  rcases z with (z | z) | z
                  · exact .inl z
                  · refine .inr ?_
                    rcases List.mem_cons.mp z with z | z
                    · rw [z]; exact List.mem_cons_self
                    · exact List.mem_cons_of_mem _ (List.mem_append_left _ z)
                  · rw [z]; exact .inr (List.mem_cons_of_mem _ (List.mem_append_right _ (by simp)))
                have more : ∀ a, (tO O0 own a ∨ a ∈ A :: (as ++ [bl])) → (tO O0 own a ∨ a ∈ A :: as) ∨ a = bl := fun a z => by
                  rcases z with z | z
                  · exact .inl (.inl z)
                  · rcases List.mem_cons.mp z with z | z
                    · rw [z]; exact .inl (.inr List.mem_cons_self)
                    · rcases List.mem_append.mp z with z | z
                      · exact .inl (.inr (List.mem_cons_of_mem _ z))
                      · exact .inr (by simpa using z)
                -- what the elder rows lean on does not lean on the new row: it is younger
                have old : Same (hide H4 (fun a => tO O0 own a ∨ a ∈ A :: as)) (hide (upd H5 A (.lst (as.map V.ref ++ [V.ref bl]))) (fun a => tO O0 own a ∨ a ∈ A :: (as ++ [bl]))) := fun b o w => by
                  obtain ⟨w1, w2⟩ := hide_eq.mp w
                  refine hide_eq.mpr ⟨fun z => ?_, ?_⟩
                  · rcases more b z with z | z
                    · exact w1 z
                    · rw [z, nb] at w2
                      cases w2
                  · rw [upd_ne fun z => w1 (.inr (by rw [z]; exact List.mem_cons_self))]
                    exact s5 _ _ w2
                have rnew : DpAll K (hide (upd H5 A (.lst (as.map V.ref ++ [V.ref bl]))) (fun a => tO O0 own a ∨ a ∈ A :: (as ++ [bl]))) ws d' := by
                  refine DpAll_mono (fun b o w => ?_) _ _ rb
                  obtain ⟨w1, w2⟩ := hide_eq.mp w
                  have n1 : ¬ (tO O0 own b ∨ b ∈ A :: as) := fun z => w1 (.inl ((eo3 b).mpr (tO_X.mpr z)))
                  have n2 : b ≠ bl := fun z => w1 (.inr (by rw [z, eo]; exact List.mem_cons_self))
                  refine hide_eq.mpr ⟨fun z => (more b z).elim n1 n2, ?_⟩
                  rw [upd_ne fun z => n1 (.inr (by rw [z]; exact List.mem_cons_self))]
                  exact w2
                refine ⟨as.map V.ref, s45 _ _ eA, n, as ++ [bl], ys ++ [d'], cs', zs', fun b o w => ?_, fun b hb => ?_, ?_, ?_, ?_, t3, z2, by rw [List.append_assoc]; exact h5⟩
                · rw [upd_ne (ne_of_none w hA)]
                  exact (s2.trans s45) _ _ w
                · rcases List.mem_append.mp hb with z | z
                  · exact fa b z
                  · rw [show b = bl by simpa using z]
                    exact s2.free (s4.free nb)
                · refine List.nodup_cons.mpr ⟨fun z => ?_, List.nodup_append.mpr ⟨(List.nodup_cons.mp nda).2, by simp, fun a h1 b h2 z => ?_⟩⟩
                  · rcases List.mem_append.mp z with z | z
                    · exact (List.nodup_cons.mp nda).1 z
                    · exact nA (show A = bl by simpa using z).symm
                  · rw [show b = bl by simpa using h2] at z
                    exact nas (by rw [← z]; exact h1)
                · rw [upd_same, List.map_append]
                  rfl
                · refine RowsR_append ⟨ws, by rw [upd_ne nA]; exact eb, rnew⟩ (RowsR_up old (fun b hb o w => ?_) (seen s4))
                  rw [upd_ne fun z => (List.nodup_cons.mp nda).1 (by rw [← z]; exact hb)]
                  exact s5 _ _ w
          · have e : i = xs.length := by omega
            subst e
            rw [List.drop_length] at h3
            cases h3
            cases h4
            rw [List.append_nil] at h5
            subst h5
            exact .inl ⟨i2 (Nat.le_refl _), h (.ref A) H2 (A :: as) (s1.trans s2) (fun a ha => s1.free (fr a ha)) nda ⟨A, as, rfl, rfl, eA, r⟩⟩
        · exact h.elim
/-- the context of a comprehension's block -/
abbrev Bk (X : Cx) (scope : Scope) (s : Shared) (H : Hp) (C : Addr) (cl : List (Str × Addr)) (fp : List Addr) : Cx := X.blk s H scope (compEnvC scope cl C X.env) fp
variable {ifs : List Expr} {scope : Scope} {own : List (Str × Nat)} {T : Tg} {y : Str} {i : Nat} {py spos : Pos}
theorem de_lc (hc : X.calm = true) (hN : X.N.Nodup) (hi : PI X tg l (wcD X.K X.mg W fi)) (ok : BlkOk X.N X.env.scope scope own) (hg : ∀ s H C cl fp, PG (Bk X scope s H C cl fp) tg (T.tg X.K)) (ht : ∀ s H C cl fp, PTs (Bk X scope s H C cl fp) ifs (ttD X.K X.mg W0 ta)) (he : ∀ s H C cl fp, PE (Bk X scope s H C cl fp) elt (teD X.K X.mg W0 fe))
    (hT : ∀ i ∈ T.slots, i ∈ own.map (·.2) := by decide) (hs : ∀ x, foldedSetIterable l X.env x = pure x := by intro _; rfl) : PE X (.ListComp elt [⟨tg, l, ifs, 0⟩] scope pos) (teD X.K X.mg W fun en => (fi en).bind fun xs => lcL (lcD (own.map (·.2)) T ta fe xs en)) :=
  PE.imp (pe_lc hc hN hi ok hg ht he hs) (lc_dat hT)
theorem de_lcR (hc : X.calm = true) (hN : X.N.Nodup) (hi : PI X tg l (wcD X.K X.mg W fi)) (ok : BlkOk X.N X.env.scope scope own) (hg : ∀ s H C cl fp, PG (Bk X scope s H C cl fp) tg (T.tg X.K)) (ht : ∀ s H C cl fp, PTs (Bk X scope s H C cl fp) ifs (ttD X.K X.mg W0 ta)) (he : ∀ s H C cl fp, PE (Bk X scope s H C cl fp) elt (teD X.K X.mg W0 fe))
    (hT : ∀ i ∈ T.slots, i ∈ own.map (·.2) := by decide) (hs : ∀ x, foldedSetIterable l X.env x = pure x := by intro _; rfl) : PE X (.ListComp elt [⟨tg, l, ifs, 0⟩] scope pos) (teD X.K X.mg W fun en => (fi en).bind fun xs => lcR (lcD (own.map (·.2)) T ta fe xs en)) :=
  PE.imp (pe_lc hc hN hi ok hg ht he hs) (lc_row hT)
theorem set_lc {K : PySem.W.Frag} {mg : Str → Option Value} {te : TE} (ht : ∀ σ H Q, teD K mg W fa σ H Q → te σ H Q) : ∀ D σ H, tsD K mg W (fun en => (fa en).into en (setR i en)) D σ H → tAsg te (gName i) D σ H := fun D σ H ⟨H0, O0, own, env, E, h⟩ => by
  refine ht σ H _ ⟨H0, O0, own, env, E, ?_⟩
  cases q : fa env with
  | no => simp only [q, R.into_no] at h; exact h
  | ex k fs => simp only [q, R.into_ex] at h; exact into_ex E h
  | ok c =>
    simp only [q, R.into_ok] at h
    unfold setR at h
    intro v H' os s fr nd r
    split at h
    · rename_i hl
      obtain ⟨E', s'⟩ := store_new E hl s fr nd r
      exact h _ H' _ E' s'
    · exact h.elim
/-- y = [..] on one line -/
theorem ds_lc (hc : X.calm = true) (hN : X.N.Nodup) (hsw : swapsWith (.ListComp elt [⟨tg, l, ifs, 0⟩] scope pos) (some (.Name y py)) spos.line X.env = pure true) (hi : PI X tg l (wcD X.K X.mg W fi)) (ok : BlkOk X.N X.env.scope scope own) (hg : ∀ s H C cl fp, PG (Bk X scope s H C cl fp) tg (T.tg X.K)) (ht : ∀ s H C cl fp, PTs (Bk X scope s H C cl fp) ifs (ttD X.K X.mg W0 ta)) (he : ∀ s H C cl fp, PE (Bk X scope s H C cl fp) elt (teD X.K X.mg W0 fe))
    (hy : X.N[i]? = some y := by rfl) (hyl : X.env.scope.names.lookup y = some .local := by rfl) (hT : ∀ i ∈ T.slots, i ∈ own.map (·.2) := by decide) (hs : ∀ x, foldedSetIterable l X.env x = pure x := by intro _; rfl) :
    PS X (.Assign [.Name y py] (.ListComp elt [⟨tg, l, ifs, 0⟩] scope pos) spos) (tsD X.K X.mg W fun en => ((fi en).bind fun xs => lcL (lcD (own.map (·.2)) T ta fe xs en)).into en (setR i en)) :=
  PS.imp (ps_setLc hc hN hy hyl hsw hi ok hg ht he hs) (set_lc (lc_dat hT))
theorem ds_lcR (hc : X.calm = true) (hN : X.N.Nodup) (hsw : swapsWith (.ListComp elt [⟨tg, l, ifs, 0⟩] scope pos) (some (.Name y py)) spos.line X.env = pure true) (hi : PI X tg l (wcD X.K X.mg W fi)) (ok : BlkOk X.N X.env.scope scope own) (hg : ∀ s H C cl fp, PG (Bk X scope s H C cl fp) tg (T.tg X.K)) (ht : ∀ s H C cl fp, PTs (Bk X scope s H C cl fp) ifs (ttD X.K X.mg W0 ta)) (he : ∀ s H C cl fp, PE (Bk X scope s H C cl fp) elt (teD X.K X.mg W0 fe))
    (hy : X.N[i]? = some y := by rfl) (hyl : X.env.scope.names.lookup y = some .local := by rfl) (hT : ∀ i ∈ T.slots, i ∈ own.map (·.2) := by decide) (hs : ∀ x, foldedSetIterable l X.env x = pure x := by intro _; rfl) :
    PS X (.Assign [.Name y py] (.ListComp elt [⟨tg, l, ifs, 0⟩] scope pos) spos) (tsD X.K X.mg W fun en => ((fi en).bind fun xs => lcR (lcD (own.map (·.2)) T ta fe xs en)).into en (setR i en)) :=
  PS.imp (ps_setLc hc hN hy hyl hsw hi ok hg ht he hs) (set_lc (lc_row hT))
/-! ### a table's item is set: t[k][j] = e, t in slot i -/
theorem RowsR_set {K : PySem.W.Frag} {H H' : Hp} {O : Addr → Prop} (s : Same (hide H O) (hide H' O)) {al : Addr} {ys : List D} (z : ∃ vs, H' al = some (.lst vs) ∧ DpAll K (hide H' O) vs ys) (k : ∀ a o, a ≠ al → H a = some o → H' a = some o) : ∀ {as : List Addr} {xss : List (List D)} {j : Nat}, as.Nodup → as[j]? = some al → RowsR K H O as xss → RowsR K H' O as (xss.set j ys)
  | [], [], _, _, e, _ => by simp at e
  | a :: as, xs :: xss, 0, nd, e, ⟨q, r⟩ => by
    simp at e
    subst e
    refine ⟨z, RowsR_up s (fun b hb o w => k b o (fun zz => (List.nodup_cons.mp nd).1 (by rw [← zz]; exact hb)) w) r⟩
  | a :: as, xs :: xss, j + 1, nd, e, ⟨⟨vs, q1, q2⟩, r⟩ => by
    have e' : as[j]? = some al := by simpa using e
    have na : a ≠ al := fun zz => (List.nodup_cons.mp nd).1 (by rw [zz]; exact List.mem_of_getElem? e')
    exact ⟨⟨vs, k a _ na q1, DpAll_mono s _ _ q2⟩, RowsR_set s z k (List.nodup_cons.mp nd).2 e' r⟩
  | [], _ :: _, _, _, _, r => r.elim
  | _ :: _, [], _, _, _, r => r.elim
theorem ds_setII (i : Nat) {sp : Pos} {o : Expr} {fb fc : Env → R Cell} (pg : PG X (.Subscript o b sp) (gSub (tOp (rIx X.K) (tVar i) (teD X.K X.mg W fc)) (teD X.K X.mg W fb) rSetL)) (ha : PE X a (teD X.K X.mg W fa)) (hs : swapsWithSole [.Subscript o b sp] a pos.line X.env = pure false := by rfl) (hw : swappedStores [.Subscript o b sp] a X.env = pure none := by rfl)
    (h1 : (assignEach [.Subscript o b sp] X.env).map (·.2) = [assign (.Subscript o b sp) X.env] := by rfl) :
    PS X (.Assign [.Subscript o b sp] a pos) (tsD X.K X.mg W fun en => ((fa en).bind asD).into en fun d => own2At i en fun xss => ((fc en).bind cellI).into en fun k => match ixN xss.length k with
      | none => .no
      | some n => ((fb en).bind cellI).into en fun j => match setAt (xss.getD n []) j d with | some ys => .nx (en.set i (.own2 (xss.set n ys))) | none => .no) :=
  PS.imp (ps_asg ha pg hs hw h1) fun D σ H ⟨H0, O0, own, env, E, h⟩ => by
  refine ⟨H0, O0, own, env, E, ?_⟩
  cases q : fa env with
  | no => simp only [q, R.bind_no, R.into_no] at h; exact h
  | ex k fs => simp only [q, R.bind_ex, R.into_ex] at h; exact into_ex E h
  | ok c =>
    simp only [q, R.bind_ok] at h
    intro v H' os s fr nd r
    cases q3 : asD c with
    | no => simp only [q3, R.into_no] at h; exact h.elim
    | ex k fs => exact (asD_ex q3).elim
    | ok d =>
      simp only [q3, R.into_ok] at h
      have hd := dat_at E fr r q3
      obtain ⟨xss, q4, h⟩ := own2At_some h
      obtain ⟨v1, e1, al, as, rfl, eo, e2, e3⟩ := E.get q4 (fun z => by cases z)
      refine ⟨.ref al, e1, H0, O0, own, env, E.mono s, ?_⟩
      cases q5 : fc env with
      | no => simp only [q5, R.bind_no, R.into_no] at h; exact h
      | ex k fs => simp only [q5, R.bind_ex, R.into_ex] at h; exact into_ex (E.mono s) (OutH.mono (same_h s) h)
      | ok c2 =>
        simp only [q5, R.bind_ok] at h
        intro u H2 os2 s2 fr2 nd2 r2
        cases q6 : cellI c2 with
        | no => simp only [q6, R.into_no] at h; exact h.elim
        | ex k fs => exact (cellI_ex q6).elim
        | ok k =>
          simp only [q6, R.into_ok] at h
          have eu := cellI_ok q6 r2
          subst eu
          have s12 := s.trans s2
          cases q8 : ixN xss.length k with
          | none =>
            simp only [q8] at h
            exact h.elim
          | some n =>
            simp only [q8] at h
            have hn : n < xss.length := ixN_of q8
            have hg : xss[n]? = some (xss.getD n []) := by
              rw [List.getD_eq_getElem?_getD, List.getElem?_eq_getElem hn]
              rfl
            obtain ⟨bl, ws, e4, e5, e6⟩ := RowsR_get e3 hg
            refine .inl ⟨al, as.map V.ref, k, .ref bl, rfl, rfl, SqL.of (s12 _ _ e2), Option.bind_eq_some_iff.mpr ⟨n, by rw [List.length_map, RowsR_len e3]; exact q8, by rw [List.getElem?_map, e4]; rfl⟩, H0, O0, own, env, E.mono s12, ?_⟩
            cases q7 : fb env with
            | no => simp only [q7, R.bind_no, R.into_no] at h; exact h.elim
            | ex k fs =>
              simp only [q7, R.bind_ex, R.into_ex] at h
              exact into_ex (E.mono s12) (OutH.mono (same_h s12) h)
            | ok c3 =>
              simp only [q7, R.bind_ok] at h
              intro u3 H3 os3 s3 fr3 nd3 r3
              cases q9 : cellI c3 with
              | no => simp only [q9, R.into_no] at h; exact h.elim
              | ex k fs => exact (cellI_ex q9).elim
              | ok j =>
                simp only [q9, R.into_ok] at h
                have eu := cellI_ok q9 r3
                subst eu
                unfold setAt at h
                cases q10 : ixN (xss.getD n []).length j with
                | none =>
                  rw [q10] at h
                  exact h.elim
                | some jn =>
                  rw [q10] at h
                  have h : OutH X.K X.mg W H0 O0 H (tO O0 own) D (.nx (env.set i (.own2 (xss.set n ((xss.getD n []).set jn d))))) := h
                  have s123 := s12.trans s3
                  have mem : al ∈ own i := by rw [eo]; exact List.mem_cons_self
                  have memb : bl ∈ own i := by rw [eo]; exact List.mem_cons_of_mem _ (List.mem_of_getElem? e4)
                  have hi : i < env.length := (List.getElem?_eq_some_iff.mp q4).1
                  have nd0 := E.nd i
                  rw [eo] at nd0
                  have nab : al ≠ bl := fun z => (List.nodup_cons.mp nd0).1 (by rw [z]; exact List.mem_of_getElem? e4)
                  have E3 := E.mono s123
                  refine ⟨bl, ws, j, jn, rfl, rfl, s123 _ _ e5, by rw [DpAll_len e6]; exact q10, ?_⟩
                  have n1 : ∀ a o, H3 a = some o → ¬ tO O0 own a → upd H3 bl (.lst (ws.set jn v)) a = some o := fun a o w n => by
                    rw [upd_ne fun z => n (by rw [z]; exact .inr ⟨i, memb⟩)]
                    exact w
                  have eqo : ownSet own i (own i) = own := by
                    funext j
                    unfold ownSet
                    by_cases hj : j = i
                    · rw [if_pos hj, hj]
                    · rw [if_neg hj]
                  have sm : Same (hide H3 (tO O0 own)) (hide (upd H3 bl (.lst (ws.set jn v))) (tO O0 own)) := fun a o w => by
                    obtain ⟨w1, w2⟩ := hide_eq.mp w
                    exact hide_eq.mpr ⟨w1, n1 a o w2 w1⟩
                  have big := same_h (O := tO O0 own) s123
                  have w := E3.set (c := .own2 (xss.set n ((xss.getD n []).set jn d))) (x := some (.ref al)) (os := own i) (H' := upd H3 bl (.lst (ws.set jn v))) hi (fun a o w => by
                      rw [upd_ne fun z => by
                        rw [z, E.fresh i bl memb] at w
                        cases w]
                      exact E3.same a o w) n1 (fun j' a o hj ha w => by
                      rw [upd_ne fun z => E.dj i j' bl (Ne.symm hj) memb (by rw [← z]; exact ha)]
                      exact w) (fun a ha => by
                      by_cases z : a = bl
                      · rw [z]; exact ⟨_, upd_same⟩
                      · rw [upd_ne z]; exact E3.th i a ha) (fun a ha => E.fresh i a ha) (fun a ha => .inr ha) (E.nd i) ⟨.ref al, rfl, al, as, rfl, eo, by rw [upd_ne nab]; exact s123 _ _ e2, by
                        rw [eqo]
                        exact RowsR_set sm ⟨_, upd_same, DpAll_mono sm _ _ (DpAll_set (Dp_mono (same_h (s2.trans s3)) _ _ hd) jn (DpAll_mono big _ _ e6))⟩ (fun a o na w => by rw [upd_ne na]; exact w) (List.nodup_cons.mp nd0).2 e4 (RowsR_mono s123 (fun _ _ _ z => z) e3)⟩
                  rw [eqo] at w
                  have e9 : σ.set i (some (.ref al)) = σ := set_self e1
                  rw [e9] at w
                  exact h _ _ own w (big.trans sm)
/-! ### a def's body -/
def startD (n : Nat) (ds : List D) : Env := ds.map Cell.d ++ List.replicate (n - ds.length) .un
def endD (o : Out) : R Cell := match o with
  | .nx _ => .ok (.d .none)
  | .rt c => .ok c
  | .ex k fs _ => .ex k fs
  | _ => .no
/-- a def of n parameters, N slots, its body g -/
def runD (N n : Nat) (g : Env → Out) (ds : List D) : R Cell := if ds.length = n then endD (g (startD N ds)) else .no
theorem runD_no {N n : Nat} {g : Env → Out} : ∀ ds : List D, ds.length ≠ n → runD N n g ds = .no := fun ds h => if_neg h
theorem start_ok {K : PySem.W.Frag} {H : Hp} {O : Addr → Prop} {ds : List D} {vs : List V} {N : List Str} (hO : ∀ a, O a → ∃ o, H a = some o) (r : DpAll K (hide H O) vs ds) : EnvOk K H H O (fun _ => []) (L2.start N vs) (startD N.length ds) := by
  have hl := DpAll_len r
  have eO : tO O (fun _ => []) = O := by
    funext a
    refine propext ⟨fun z => ?_, fun z => .inl z⟩
    rcases z with z | ⟨_, z⟩
    · exact z
    · cases z
  refine ⟨Same.refl H, by unfold L2.start startD; simp [hl], fun i c e => ?_, fun i a h => (by cases h), fun i => List.nodup_nil, fun i j a _ h => (by cases h), fun i a h => (by cases h), hO⟩
  rw [eO]
  unfold startD at e
  unfold L2.start
  by_cases hi : i < ds.length
  · rw [List.getElem?_append_left (by simpa using hi), List.getElem?_map] at e
    rw [List.getElem?_append_left (by simpa [hl] using hi), List.getElem?_map]
    rw [List.getElem?_eq_getElem hi] at e
    cases e
    obtain ⟨v, e1, e2⟩ := DpAll_get r (List.getElem?_eq_getElem hi)
    exact ⟨v, by rw [e1]; rfl, rfl, e2⟩
  · rw [List.getElem?_append_right (by simpa using hi)] at e
    rw [List.getElem?_replicate] at e
    split at e
    · cases e
      exact trivial
    · cases e
theorem fnD {P : Program} {w : World} {mg : Str → Option Value} {base : Heap} {K : PySem.W.Frag} {x qual : Str} {fst : Stmt} {f : Addr} {fd : FuncData} {N ps : List Str} {k : Nat} {gb : Env → Out} (F : Fun K x qual fst f fd) (S : FnScope N ps (defScope fst))
    (hb : ∀ (cdv : Value) (A : Around) (outer : List PySem.Env) (s : Shared) (H : Hp) (E : XK), Room k (A.deeper (envOfC qual (defScope fst) s.heap.objs.size f cdv)) →
      PSs (cxOf (L2.CX P w) P w K mg base N qual (defScope fst) f cdv A outer s H E) (defBody fst) (tsD K mg (fun cls d _ H => E cls d H) gb)) :
    FnOk P w K mg base (L2.CX P w) (k + 1) f fd ps (spD K mg ps.length (runD N.length ps.length gb)) := by
  refine F.okX S (fun vs H Q E h => ?_) (fun cdv A outer s H vs Q E hr h => ⟨_, hb cdv A outer s H E hr, ?_⟩)
  · obtain ⟨O, ds, _, hl, r, _⟩ := h
    rw [DpAll_len r, hl]
  · obtain ⟨O, ds, hO, hl, r, h⟩ := h
    have eO : tO O (fun _ => []) = O := by
      funext a
      refine propext ⟨fun z => ?_, fun z => .inl z⟩
      rcases z with z | ⟨_, z⟩
      · exact z
      · cases z
    refine ⟨H, O, fun _ => [], _, start_ok hO r, ?_⟩
    unfold runD at h
    rw [if_pos hl] at h
    cases q : gb (startD N.length ds) with
    | no => rw [q] at h; exact h
    | bk e => rw [q] at h; exact h.elim
    | ct e => rw [q] at h; exact h.elim
    | rt c =>
      rw [q] at h
      exact fun v H' os s fr nd r => h v H' os s fr nd r
    | nx e =>
      rw [q] at h
      exact fun σ' H' own' E' s => h .non H' [] E'.same (fun a ha => by cases ha) List.nodup_nil ⟨rfl, .non⟩
    | ex k fs e =>
      rw [q] at h
      intro σ' H' own' cls d E' s w
      refine h H' cls d E'.same (ExcR_mono (hide_same (Same.refl H') fun a o _ z => .inl z) w)
end
end DL
/-! ## DL, part 9: own exceptions, the law's end -/
namespace DL
open PySem PySem.Spec PyProof.Rows L2
/-! ### an own exception class with one field -/
/-- what the top has written of the class named x: __init__(self, f) that stores f -/
structure Exc1 (K : PySem.W.Frag) (mg : Str → Option Value) (x f : Str) (st : Stmt) : Prop where
  ex : ∃ (C fI : Addr) (fd : FuncData) (q : Str), mg x = some (.ref C) ∧ OexC K C ∧ XfC K C ∧ PySem.W.findIn K (.ref C) f = some none ∧ PySem.W.findIn K (.ref C) "__init__" = some (some (.ref fI)) ∧ PySem.W.typeIn K (.ref fI) = some (.type "function") ∧
    Fun K "__init__" q st fI fd ∧ Binds K fd ["self", f] [] ∧ PySem.W.exmOne K (.ref C) (.ref C) = some true
  sc : FnScope ["self", f] ["self", f] (defScope st)
  body : ∃ q1 q2 q3 q4, defBody st = [.Assign [.Attribute (.Name "self" q1) f q2] (.Name f q3) q4]
  lf : (defScope st).names.lookup f = some .local
  ls : (defScope st).names.lookup ("self" : Str) = some .local
  nd : (f == ("__debug__" : Str)) = false ∧ (f == ("__classdict__" : Str)) = false
def spIni (K : PySem.W.Frag) (f : Str) : Sp := fun vs H Q _ => ∃ (a C : Addr) (y : V), vs = [.ref a, y] ∧ OexC K C ∧ PySem.W.findIn K (.ref C) f = some none ∧ H a = some (exo a C none) ∧ ∀ dx, H dx = none → dx ≠ a → Q .non (upd (upd H dx (exd dx [(f, y)])) a (exo a C (some dx)))
section
variable {P : Program} {w : World} {K : PySem.W.Frag} {mg : Str → Option Value} {base : Heap}
theorem ini_ok {f q : Str} {st : Stmt} {fI : Addr} {fd : FuncData} (F : Fun K "__init__" q st fI fd) (S : FnScope ["self", f] ["self", f] (defScope st)) (hb : ∃ q1 q2 q3 q4, defBody st = [.Assign [.Attribute (.Name "self" q1) f q2] (.Name f q3) q4]) (lf : (defScope st).names.lookup f = some .local) (ls : (defScope st).names.lookup ("self" : Str) = some .local)
    (nd : (f == ("__debug__" : Str)) = false ∧ (f == ("__classdict__" : Str)) = false) : FnOk P w K mg base (L2.CX P w) 1 fI fd ["self", f] (spIni K f) := by
  refine F.okX S (fun vs H Q E h => ?_) (fun cdv A outer s H vs Q E hr h => ?_)
  · obtain ⟨a, C, y, rfl, _⟩ := h
    rfl
  · obtain ⟨a, C, y, rfl, T, hno, ea, h⟩ := h
    obtain ⟨q1, q2, q3, q4, eb⟩ := hb
    rw [eb]
    refine ⟨_, pss_one (ps_ost (pe_var (i := 0) rfl (.inl ls)) (pe_var (i := 1) rfl (.inl lf) nd.1 nd.2)), ?_⟩
    exact ⟨y, rfl, .ref a, rfl, a, C, rfl, T, hno, .inl ⟨ea, fun dx n ne => h dx n ne⟩⟩
variable {X : Cx} {W : WX} {a : Expr} {fa : Env → R Cell} {pos p : Pos} {x f : Str} {st : Stmt}
/-- raise X(e) -/
theorem ds_raise1 (T : Exc1 X.K X.mg x f st) (hr : Room 2 X.A) (tk : Takes X W) (hc : X.calm = true) (ha : PE X a (teD X.K X.mg W fa)) (hg : Gl X x := by rfl) (hdb : (x == ("__debug__" : Str)) = false := by decide)
    (he : starEach (a :: []) X.env = (false, eval a X.env) :: starEach [] X.env := by rfl) (hpl : (backTo p (starEach [] X.env)).any (·.1) = false := by rfl) {np : Pos} :
    PS X (.Raise (some (.Call (.Name x np) [a] [] p)) none pos) (tsD X.K X.mg W fun en => ((fa en).bind asD).into en fun d => .ex x [(f, d)] en) := by
  obtain ⟨C, fI, fd, q, hm, TO, TX, hno, iC, tI, F, bI, te⟩ := T.ex
  refine PS.imp (ps_raise hc tk (pmk_oex (dvs := []) TO iC tI (ini_ok F T.sc T.body T.lf T.ls T.nd) hr bI .nil passL hg hm (pa_cons ha pa_nil he) hdb he hpl)) fun D σ H ⟨H0, O0, own, env, E, h⟩ => ?_
  refine ⟨H0, O0, own, env, E, ?_⟩
  cases q2 : fa env with
  | no => simp only [q2, R.bind_no, R.into_no] at h; exact h
  | ex k fs => simp only [q2, R.bind_ex, R.into_ex] at h; exact into_ex E h
  | ok c =>
    simp only [q2, R.bind_ok] at h
    intro v H1 os s fr nd r
    cases q3 : asD c with
    | no => simp only [q3, R.into_no] at h; exact h.elim
    | ex k fs => exact (asD_ex q3).elim
    | ok d =>
      simp only [q3, R.into_ok] at h
      have hd := dat_at E fr r q3
      refine ⟨(by show 1 ≤ 1000; decide), fun al hal => ?_⟩
      refine ⟨al, C, v, rfl, TO, hno, upd_same, fun dx hdx ne => ⟨rfl, dx, [(f, v)], upd_same, ?_, ?_, ?_⟩⟩
      · rw [upd_ne ne]
        exact upd_same
      · rw [upd_ne ne] at hdx
        exact hdx
      · have hdx1 : H1 dx = none := by
          rw [upd_ne ne] at hdx
          exact hdx
        have sm : Same H1 (upd (del (upd (upd (upd H1 al (exo al C none)) dx (exd dx [(f, v)])) al (exo al C (some dx))) al) dx (.xd [(f, v)])) := fun b o e => by
          have nb : b ≠ al := ne_of_none e hal
          have nx : b ≠ dx := ne_of_none e hdx1
          rw [upd_ne nx, del_ne nb, upd_ne nb, upd_ne nx, upd_ne nb]
          exact e
        refine h σ _ own (.ref C) (some dx) (E.mono (s.trans sm)) (same_h (s.trans sm)) ⟨⟨C, hm, rfl⟩, .inr ⟨dx, [(f, v)], rfl, hide_eq.mpr ⟨fun z => ?_, upd_same⟩, rfl, Dp_mono (same_h sm) _ _ hd, trivial⟩⟩
        obtain ⟨o, e⟩ := (E.mono s).thereO dx z
        rw [hdx1] at e
        cases e
/-- try: body / except X as e: return e.f -/
def tryF (i : Nat) (x f : Str) (o : Out) : Out := match o with
  | .ex k fs e => if k = x ∧ i < e.length then (match fs with
      | [(g, d)] => if g = f then .rt (.d d) else .no
      | _ => .no) else .no
  | .rt c => .rt c
  | .nx e => .nx e
  | _ => .no
theorem ds_tryF {i : Nat} {n : Str} {body : List Stmt} {g : Env → Out} {np np2 ap hp2 p1 p2 : Pos} (T : Exc1 X.K X.mg x f st) (hN : X.N.Nodup)
    (hb : ∀ (W : WX) (pn : List (Addr × Obj)) (xe : Value → Shared → Prop), Takes (X.tr pn xe) W → PassesOwn (model X.prog X.w) X.A X.env xe → PSs (X.tr pn xe) body (tsD X.K X.mg W g))
    (hs : X.stack = X.env :: X.outer := by rfl) (hf : X.env.frame = some X.env.locals := by rfl) (hi : X.N[i]? = some n := by rfl) (hln : X.env.kindOf n = some .local := by rfl) (hg : Gl X x := by rfl) (hdb : (x == ("__debug__" : Str)) = false := by decide) (hdn : (n == ("__debug__" : Str)) = false := by decide) (hcn : (n == ("__classdict__" : Str)) = false := by decide)
    (hat : ∀ al pn, attributeBase (.Name n np2) f (X.suite al pn).env (eval (.Name n np2) (X.suite al pn).env) = eval (.Name n np2) (X.suite al pn).env := by intros; rfl) :
    PS X (.Try body [.ExceptHandler (some (.Name x np)) (some n) [.Return (some (.Attribute (.Name n np2) f ap)) p1] hp2] [] [] p2) (tsD X.K X.mg W fun en => tryF i x f (g en)) := by
  obtain ⟨C, fI, fd, q, hm, TO, TX, hno, iC, tI, F, bI, te⟩ := T.ex
  refine PS.imp (ps_try_as (c := .ref C) (i := i) (Wout := fun _ _ _ _ => False) hs hf hN hi hln ⟨hg, hdb, .inl hm⟩ takes0 hb (fun al oe cls d pn hz hd => pss_one (ps_ret (pe_xf (C := C) TX hno hz hd (pe_var (i := i) hi (.inl hln) hdn hcn) (hat al ((al, oe) :: pn)))))) fun D σ H ⟨H0, O0, own, env, E, h⟩ => ?_
  refine ⟨H0, O0, own, env, E, ?_⟩
  cases q2 : g env with
  | no => simp only [q2, tryF] at h; exact h
  | bk e => simp only [q2, tryF] at h; exact h.elim
  | ct e => simp only [q2, tryF] at h; exact h.elim
  | rt c => simp only [q2, tryF] at h; exact h
  | nx e => simp only [q2, tryF] at h; exact h
  | ex k fs e =>
    simp only [q2, tryF] at h
    split at h
    · rename_i ek
      obtain ⟨ek, hil⟩ := ek
      subst ek
      split at h
      · rename_i g' d'
        split at h
        · rename_i eg
          subst eg
          intro σ' H' own' cls dd E' s r
          obtain ⟨⟨C', hC, rfl⟩, r2⟩ := r
          have eC : C' = C := by
            rw [hm] at hC
            cases hC
            rfl
          subst eC
          rcases r2 with ⟨z, _⟩ | ⟨d2, vs, rfl, ed, r3⟩
          · cases z
          · cases vs with
            | nil => exact r3.elim
            | cons p0 vs =>
              cases vs with
              | cons _ _ => exact r3.2.2.elim
              | nil =>
                obtain ⟨e1, e2, _⟩ := r3
                obtain ⟨g1, v1⟩ := p0
                have e1 : g1 = g' := e1
                subst e1
                have hl : i < σ'.length := by
                  rw [E'.len]
                  exact hil
                refine ⟨true, te, fun _ al hal => ⟨.ref al, by rw [List.getElem?_set_self hl], rfl, rfl, d2, [(g1, v1)], v1, rfl, (hide_eq.mp ed).2, by simp [List.lookup], ?_⟩, fun z => by cases z⟩
                exact h v1 H' [] E'.same (fun a ha => by cases ha) List.nodup_nil ⟨rfl, Dp_mono (hide_same (Same.refl H') fun a o _ z => .inl (by
                  rcases z with z | z
                  · exact z
                  · cases z)) _ _ e2⟩
        · exact h.elim
      · exact h.elim
    · exact h.elim
end
/-- an exception of the class is caught by the class's own name -/
theorem exm_same {K : PySem.W.Frag} {C : Addr} (b : PySem.W.subIn K (.ref C) (.type "BaseException") = some true) (i : PySem.W.isClsIn K C = true) (t : PySem.W.typeIn K (.ref C) = some (.type "type")) (z : PySem.W.subIn K (.ref C) (.ref C) = some true) : PySem.W.exmOne K (.ref C) (.ref C) = some true := by
  have i' : (PySem.W.clsIn K C).isSome = true := i
  unfold PySem.W.exmOne PySem.W.kitCls
  simp [b, i', t, z]
/-! ### the law's end -/
/-- the law's promise: of a script of at most 63 ints it says True -/
def spLaw (K : PySem.W.Frag) : Sp := fun vs H Q _ => ∃ (a : Addr) (ns : List Int), vs = [.ref a] ∧ SqL K H a (ns.map V.int) ∧ ns.length ≤ 63 ∧ ∀ H', Q (.bl true) H'
theorem ints_dp {K : PySem.W.Frag} {H : Hp} : ∀ ns : List Int, DpAll K H (ns.map V.int) (ns.map PyData.int)
  | [] => .nil
  | n :: ns => .cons (.int n) (ints_dp ns)
theorem law_end {P : Program} {w : World} {K : PySem.W.Frag} {mg : Str → Option Value} {base : Heap} {k : Nat} {f : Addr} {fd : FuncData} {m : List D → R Cell} (F : FnOk P w K mg base (L2.CX P w) k f fd ["script"] (spD K mg 1 m)) (h : ∀ ns : List Int, ns.length ≤ 63 → m [.list (ns.map PyData.int)] = .ok (.d (.bool true))) :
    FnOk P w K mg base (L2.CX P w) k f fd ["script"] (spLaw K) := F.imp fun vs H Q E ⟨a, ns, e, hs, hl, q⟩ => by
  subst e
  refine ⟨fun _ => False, [.list (ns.map PyData.int)], fun _ z => z.elim, rfl, .cons (.lst (SqL_mono (hide_no fun _ z => z) hs) (ints_dp ns)) .nil, ?_⟩
  rw [h ns hl]
  intro v H' os _ _ _ r
  rw [Dp_bool r.2]
  exact q H'
theorem cx_never {P : Program} {w : World} {H : Hp} {s s' : Shared} {e : Value} (h : L2.CX P w [] H s (fun _ _ _ => False) e s') : False := by
  obtain ⟨_, _, _, _, _, _, _, _, _, _, _, _, z⟩ := h
  exact z
end DL
/-! ## DL, part 10: how the plain functions reckon -/
namespace DL
open PySem
section
variable {e : Env} {c : Cell} {x y : D} {xs ys : List D} {xss : List (List D)} {i j : Int} {n : Nat} {s t : Str} {b : Bool}
@[simp] theorem getC_d : getC 0 (.d x :: e) = .ok (.d x) := rfl
@[simp] theorem getC_own : getC 0 (.own xs :: e) = .ok (.own xs) := rfl
@[simp] theorem getC_own2 : getC 0 (.own2 xss :: e) = .ok (.own2 xss) := rfl
@[simp] theorem getC_un : getC 0 (.un :: e) = .no := rfl
@[simp] theorem getC_succ : getC (n + 1) (c :: e) = getC n e := by
  unfold getC
  rw [List.getElem?_cons_succ]
@[simp] theorem val_d : Cell.val (.d x) = .ok (.d x) := rfl
@[simp] theorem varD_eq : varD n e = (getC n e).bind Cell.val := rfl
@[simp] theorem cstD_eq : cstD x e = .ok (.d x) := rfl
@[simp] theorem intI_int {f : Int → Int → Int} : intI f (.d (.int i)) (.d (.int j)) = .ok (.d (.int (f i j))) := rfl
@[simp] theorem intB_int {f : Int → Int → Bool} : intB f (.d (.int i)) (.d (.int j)) = .ok (.d (.bool (f i j))) := rfl
@[simp] theorem addD_int : addD (.d (.int i)) (.d (.int j)) = .ok (.d (.int (i + j))) := rfl
theorem addD_own (h : xs.length + ys.length ≤ 16777216) : addD (.own xs) (.own ys) = .ok (.own (xs ++ ys)) := by
  show (if xs.length + ys.length ≤ 16777216 then _ else _) = _
  rw [if_pos h]
theorem addD_tup (h : xs.length + ys.length ≤ 16777216) : addD (.d (.tuple xs)) (.d (.tuple ys)) = .ok (.d (.tuple (xs ++ ys))) := by
  show (if xs.length + ys.length ≤ 16777216 then _ else _) = _
  rw [if_pos h]
theorem addD_str (h : s.length + t.length ≤ 16777216) : addD (.d (.str s)) (.d (.str t)) = .ok (.d (.str (s ++ t))) := by
  show (if s.length + t.length ≤ 16777216 then _ else _) = _
  rw [if_pos h]
theorem mulD_int (h : (-(2 ^ 64) < i ∧ i < 2 ^ 64) ∨ (-(2 ^ 64) < j ∧ j < 2 ^ 64)) : mulD (.d (.int i)) (.d (.int j)) = .ok (.d (.int (i * j))) := by
  show (if _ then _ else _) = _
  rw [if_pos h]
theorem mulD_own (h : -(2 ^ 63) ≤ j ∧ j < 2 ^ 63 ∧ xs.length * j.toNat ≤ 16777216) : mulD (.own xs) (.d (.int j)) = .ok (.own (List.replicate j.toNat xs).flatten) := by
  show (if _ then _ else _) = _
  rw [if_pos h]
theorem divD_int (h : 0 < j ∧ j < 1073741824) : divD (.d (.int i)) (.d (.int j)) = .ok (.d (.int (i / j))) := by
  show (if _ then _ else _) = _
  rw [if_pos h]
theorem modD_int (h : 0 < j) : modD (.d (.int i)) (.d (.int j)) = .ok (.d (.int (i % j))) := by
  show (if _ then _ else _) = _
  rw [if_pos h]
@[simp] theorem negD_int : negD (.d (.int i)) = .ok (.d (.int (-i))) := rfl
@[simp] theorem isNone_none : isNoneD (.d .none) = .ok (.d (.bool true)) := rfl
@[simp] theorem isNone_bool : isNoneD (.d (.bool b)) = .ok (.d (.bool false)) := rfl
@[simp] theorem isNone_int : isNoneD (.d (.int i)) = .ok (.d (.bool false)) := rfl
@[simp] theorem isNone_str : isNoneD (.d (.str s)) = .ok (.d (.bool false)) := rfl
@[simp] theorem isNone_list : isNoneD (.d (.list xs)) = .ok (.d (.bool false)) := rfl
@[simp] theorem isNone_tuple : isNoneD (.d (.tuple xs)) = .ok (.d (.bool false)) := rfl
@[simp] theorem isNone_own : isNoneD (.own xs) = .ok (.d (.bool false)) := rfl
@[simp] theorem notNone_none : notNoneD (.d .none) = .ok (.d (.bool false)) := rfl
@[simp] theorem notNone_bool : notNoneD (.d (.bool b)) = .ok (.d (.bool true)) := rfl
@[simp] theorem notNone_int : notNoneD (.d (.int i)) = .ok (.d (.bool true)) := rfl
@[simp] theorem notNone_str : notNoneD (.d (.str s)) = .ok (.d (.bool true)) := rfl
@[simp] theorem notNone_list : notNoneD (.d (.list xs)) = .ok (.d (.bool true)) := rfl
@[simp] theorem notNone_tuple : notNoneD (.d (.tuple xs)) = .ok (.d (.bool true)) := rfl
@[simp] theorem len_list : lenD (.d (.list xs)) = .ok (.d (.int xs.length)) := rfl
@[simp] theorem len_tuple : lenD (.d (.tuple xs)) = .ok (.d (.int xs.length)) := rfl
@[simp] theorem len_own : lenD (.own xs) = .ok (.d (.int xs.length)) := rfl
@[simp] theorem len_own2 : lenD (.own2 xss) = .ok (.d (.int xss.length)) := rfl
@[simp] theorem max_int : maxD (.d (.int i)) (.d (.int j)) = .ok (.d (.int (if j > i then j else i))) := rfl
@[simp] theorem min_int : minD (.d (.int i)) (.d (.int j)) = .ok (.d (.int (if j < i then j else i))) := rfl
@[simp] theorem list_list : listD (.d (.list xs)) = .ok (.own xs) := rfl
@[simp] theorem list_tuple : listD (.d (.tuple xs)) = .ok (.own xs) := rfl
@[simp] theorem list_own : listD (.own xs) = .ok (.own xs) := rfl
@[simp] theorem tuple_list : tupleD (.d (.list xs)) = .ok (.d (.tuple xs)) := rfl
@[simp] theorem tuple_tuple : tupleD (.d (.tuple xs)) = .ok (.d (.tuple xs)) := rfl
@[simp] theorem tuple_own : tupleD (.own xs) = .ok (.d (.tuple xs)) := rfl
@[simp] theorem items_list : itemsR (.d (.list xs)) = .ok xs := rfl
@[simp] theorem items_tuple : itemsR (.d (.tuple xs)) = .ok xs := rfl
@[simp] theorem items_own : itemsR (.own xs) = .ok xs := rfl
@[simp] theorem asB_bool : asB (.d (.bool b)) = .ok b := rfl
@[simp] theorem asD_d : asD (.d x) = .ok x := rfl
@[simp] theorem asD_own : asD (.own xs) = .ok (.list xs) := rfl
@[simp] theorem asI_int : asI (.d (.int i)) = .ok (some i) := rfl
@[simp] theorem cellI_int : cellI (.d (.int i)) = .ok i := rfl
@[simp] theorem asRow_own : asRow (.own xs) = .ok xs := rfl
@[simp] theorem freezeAll_nil : freezeAll [] e = e := rfl
@[simp] theorem freezeAll_cons {i : Nat} {is : List Nat} : freezeAll (i :: is) e = freezeAll is (freeze i e) := rfl
@[simp] theorem freeze_zero : freeze 0 (c :: e) = freezeC c :: e := rfl
@[simp] theorem freeze_succ : freeze (n + 1) (c :: e) = c :: freeze n e := by
  unfold freeze
  rw [List.getElem?_cons_succ]
  cases e[n]? with
  | none => rfl
  | some c => rfl
@[simp] theorem freezeC_d : freezeC (.d x) = .d x := rfl
@[simp] theorem freezeC_own : freezeC (.own xs) = .d (.list xs) := rfl
@[simp] theorem freezeC_own2 : freezeC (.own2 xss) = .d (.list (xss.map .list)) := rfl
@[simp] theorem freezeC_un : freezeC .un = .un := rfl
@[simp] theorem ownAt_zero {f : List D → Out} : ownAt 0 (.own xs :: e) f = f xs := rfl
@[simp] theorem ownAt_succ {f : List D → Out} : ownAt (n + 1) (c :: e) f = ownAt n e f := by
  unfold ownAt
  rw [List.getElem?_cons_succ]
@[simp] theorem own2At_zero {f : List (List D) → Out} : own2At 0 (.own2 xss :: e) f = f xss := rfl
@[simp] theorem own2At_succ {f : List (List D) → Out} : own2At (n + 1) (c :: e) f = own2At n e f := by
  unfold own2At
  rw [List.getElem?_cons_succ]
@[simp] theorem andR_ok {r : R Bool} : andR (.ok b) r = if b = true then r else .ok false := rfl
@[simp] theorem orR_ok {r : R Bool} : orR (.ok b) r = if b = true then .ok true else r := rfl
@[simp] theorem notR_ok : notR (.ok b) = .ok (!b) := rfl
@[simp] theorem andV_ok {r : R Cell} : andV (.ok (.d (.bool b))) r = if b = true then r else .ok (.d (.bool false)) := rfl
@[simp] theorem orV_ok {r : R Cell} : orV (.ok (.d (.bool b))) r = if b = true then .ok (.d (.bool true)) else r := rfl
@[simp] theorem notV_ok : notV (.ok (.d (.bool b))) = .ok (.d (.bool (!b))) := rfl
@[simp] theorem ifR_ok {α : Type} {u v : R α} : ifR (.ok b) u v = if b = true then u else v := rfl
@[simp] theorem consR_ok {r : R (List D)} : consR (.ok (.d x)) r = r.bind fun ds => .ok (x :: ds) := rfl
@[simp] theorem consR_own {r : R (List D)} : consR (.ok (.own xs)) r = r.bind fun ds => .ok (.list xs :: ds) := rfl
@[simp] theorem consR_no {r : R (List D)} : consR .no r = .no := rfl
theorem lstR_ok (h : xs.length ≤ 16777216) : lstR (.ok xs) = .ok (.own xs) := by
  show (if _ then _ else _) = _
  rw [if_pos h]
theorem tupR_ok (h : xs.length ≤ 16777216) : tupR (.ok xs) = .ok (.d (.tuple xs)) := by
  show (if _ then _ else _) = _
  rw [if_pos h]
@[simp] theorem quiet_ok {α : Type} {a : α} : (R.ok a).quiet = .ok a := rfl
@[simp] theorem lent_int : (R.ok (.d (.int i)) : R Cell).lent = .ok (.d (.int i)) := rfl
@[simp] theorem lent_bool : (R.ok (.d (.bool b)) : R Cell).lent = .ok (.d (.bool b)) := rfl
@[simp] theorem lent_none : (R.ok (.d .none) : R Cell).lent = .ok (.d .none) := rfl
@[simp] theorem endD_rt : endD (.rt c) = .ok c := rfl
@[simp] theorem endD_nx : endD (.nx e) = .ok (.d .none) := rfl
@[simp] theorem endD_ex {k : Str} {fs : List (Str × D)} : endD (.ex k fs e) = .ex k fs := rfl
@[simp] theorem put_nm : (Tg.nm n).put x e = some (e.set n (.d x)) := rfl
@[simp] theorem turnD_nm {g : Env → Out} : turnD (.nm n) g x e = g (e.set n (.d x)) := rfl
theorem setR_ok {n : Nat} (h : n < e.length) : setR n e c = .nx (e.set n c) := if_pos h
/-- an index within -/
theorem at_nat {α : Type} {l : List α} {k : Nat} {a : α} (h : l[k]? = some a) : L2.atI l (k : Int) = some a := L2.atI_nat h
theorem ix_nat {n k : Nat} (h : k < n) : L2.ixN n (k : Int) = some k := by
  unfold L2.ixN
  rw [if_pos (by omega), if_pos (by omega), Int.toNat_natCast]
theorem idx_list {k : Nat} (h : xs[k]? = some x) : idxD (.d (.list xs)) (.d (.int (k : Int))) = .ok (.d x) := by
  show (match L2.atI xs (k : Int) with | some v => R.ok (Cell.d v) | none => .no) = _
  rw [at_nat h]
theorem idx_tuple {k : Nat} (h : xs[k]? = some x) : idxD (.d (.tuple xs)) (.d (.int (k : Int))) = .ok (.d x) := by
  show (match L2.atI xs (k : Int) with | some v => R.ok (Cell.d v) | none => .no) = _
  rw [at_nat h]
theorem idx_own {k : Nat} (h : xs[k]? = some x) : idxD (.own xs) (.d (.int (k : Int))) = .ok (.d x) := by
  show (match L2.atI xs (k : Int) with | some v => R.ok (Cell.d v) | none => .no) = _
  rw [at_nat h]
theorem idx_own2 {k : Nat} (h : xss[k]? = some xs) : idxD (.own2 xss) (.d (.int (k : Int))) = .ok (.own xs) := by
  show (match L2.atI xss (k : Int) with | some v => R.ok (Cell.own v) | none => .no) = _
  rw [at_nat h]
theorem eqD_ok (hx : SeqAt.shaped x = true) (hy : SeqAt.shaped y = true) : eqD (.d x) (.d y) = .ok (.d (.bool (PyData.eqv x y))) := by
  show (if _ then _ else _) = _
  rw [if_pos ⟨hx, hy⟩]
theorem neD_ok (hx : SeqAt.shaped x = true) (hy : SeqAt.shaped y = true) : neD (.d x) (.d y) = .ok (.d (.bool (!PyData.eqv x y))) := by
  show (if _ then _ else _) = _
  rw [if_pos ⟨hx, hy⟩]
end
/-! ### loops by an invariant -/
theorem forD_ind {g : D → Env → Out} {P : Nat → Env → Prop} : ∀ {xs : List D} {e : Env}, P 0 e → (∀ i x e, xs[i]? = some x → P i e → ∃ e', g x e = .nx e' ∧ P (i + 1) e') → ∃ e', forD g xs e = .nx e' ∧ P xs.length e' := by
  have go : ∀ (xs : List D) (k : Nat) (e : Env), P k e → (∀ i x e, xs[i]? = some x → P (k + i) e → ∃ e', g x e = .nx e' ∧ P (k + i + 1) e') → ∃ e', forD g xs e = .nx e' ∧ P (k + xs.length) e' := by
    intro xs
    induction xs with
    | nil => exact fun k e h _ => ⟨e, rfl, h⟩
    | cons x xs ih =>
      intro k e h st
      obtain ⟨e1, h1, h2⟩ := st 0 x e rfl h
      obtain ⟨e2, h3, h4⟩ := ih (k + 1) e1 h2 fun i y e' hy hp => by
        have := st (i + 1) y e' (by simpa using hy) (by rw [show k + (i + 1) = k + 1 + i by omega]; exact hp)
        rw [show k + (i + 1) = k + 1 + i by omega] at this
        exact this
      refine ⟨e2, ?_, by rw [List.length_cons, show k + (xs.length + 1) = k + 1 + xs.length by omega]; exact h4⟩
      show (match g x e with | .nx e' => forD g xs e' | .ct e' => forD g xs e' | .bk e' => .nx e' | o => o) = _
      rw [h1]
      exact h3
  intro xs e h st
  have := go xs 0 e h fun i x e hx hp => by
    have := st i x e hx (by rw [Nat.zero_add] at hp; exact hp)
    rw [Nat.zero_add]
    exact this
  rw [Nat.zero_add] at this
  exact this
/-- a loop that may leave: o is what it leaves with -/
def Out.stops : Out → Bool
  | .rt _ => true
  | .ex _ _ _ => true
  | _ => false
theorem forD_find {g : D → Env → Out} {P : Nat → Env → Prop} {S : Out → Prop} : ∀ {xs : List D} {e : Env}, P 0 e → (∀ i x e, xs[i]? = some x → P i e → (∃ e', g x e = .nx e' ∧ P (i + 1) e') ∨ ((g x e).stops = true ∧ S (g x e))) →
    (∃ e', forD g xs e = .nx e' ∧ P xs.length e') ∨ ((forD g xs e).stops = true ∧ S (forD g xs e)) := by
  have go : ∀ (xs : List D) (k : Nat) (e : Env), P k e → (∀ i x e, xs[i]? = some x → P (k + i) e → (∃ e', g x e = .nx e' ∧ P (k + i + 1) e') ∨ ((g x e).stops = true ∧ S (g x e))) → (∃ e', forD g xs e = .nx e' ∧ P (k + xs.length) e') ∨ ((forD g xs e).stops = true ∧ S (forD g xs e)) := by
    intro xs
    induction xs with
    | nil => exact fun k e h _ => .inl ⟨e, rfl, h⟩
    | cons x xs ih =>
      intro k e h st
      have un : forD g (x :: xs) e = (match g x e with | .nx e' => forD g xs e' | .ct e' => forD g xs e' | .bk e' => .nx e' | o => o) := rfl
      rcases st 0 x e rfl h with ⟨e1, h1, h2⟩ | ⟨h1, h2⟩
      · rw [un, h1]
        rcases ih (k + 1) e1 h2 fun i y e' hy hp => by
          have := st (i + 1) y e' (by simpa using hy) (by rw [show k + (i + 1) = k + 1 + i by omega]; exact hp)
          rw [show k + (i + 1) = k + 1 + i by omega] at this
          exact this with ⟨e2, h3, h4⟩ | h5
        · exact .inl ⟨e2, h3, by rw [List.length_cons, show k + (xs.length + 1) = k + 1 + xs.length by omega]; exact h4⟩
        · exact .inr h5
      · have eo : forD g (x :: xs) e = g x e := by
          rw [un]
          cases q : g x e with
          | rt c => rfl
          | ex k fs e' => rfl
          | no => exact absurd h1 (by rw [q]; exact Bool.false_ne_true)
          | nx _ => exact absurd h1 (by rw [q]; exact Bool.false_ne_true)
          | bk _ => exact absurd h1 (by rw [q]; exact Bool.false_ne_true)
          | ct _ => exact absurd h1 (by rw [q]; exact Bool.false_ne_true)
        rw [eo]
        exact .inr ⟨h1, h2⟩
  intro xs e h st
  have := go xs 0 e h fun i x e hx hp => by
    have := st i x e hx (by rw [Nat.zero_add] at hp; exact hp)
    rw [Nat.zero_add]
    exact this
  rw [Nat.zero_add] at this
  exact this
/-- a while by a measure -/
theorem whileD_ind {c : Env → R Bool} {g : Env → Out} {P : Nat → Env → Prop} {Q : Env → Prop} (st : ∀ m e, P m e → (c e = .ok false ∧ Q e) ∨ (c e = .ok true ∧ ∃ e', g e = .nx e' ∧ ∃ k, k < m ∧ P k e')) : ∀ (m n : Nat) (e : Env), P m e → m < n → ∃ e', whileD c g n e = .nx e' ∧ Q e' := by
  intro m
  induction m using Nat.strongRecOn with
  | ind m ih =>
    intro n e h hn
    cases n with
    | zero => omega
    | succ n =>
      have un : whileD c g (n + 1) e = (c e).into e fun b => if b = true then (match g e with | .nx e' => whileD c g n e' | .ct e' => whileD c g n e' | .bk e' => .nx e' | o => o) else .nx e := rfl
      rcases st m e h with ⟨h1, h2⟩ | ⟨h1, e', h2, k, hk, h3⟩
      · exact ⟨e, by rw [un, h1]; rfl, h2⟩
      · rw [un, h1, R.into_ok, if_pos rfl, h2]
        exact ih k hk n e' h3 (by omega)
theorem mapR_map {α β : Type} {f : α → R β} {g : α → β} : ∀ {xs : List α}, (∀ x ∈ xs, f x = .ok (g x)) → mapR f xs = .ok (xs.map g)
  | [], _ => rfl
  | x :: xs, h => by
    show (f x).bind (fun y => (mapR f xs).bind fun ys => .ok (y :: ys)) = _
    rw [h x List.mem_cons_self, R.bind_ok, mapR_map fun y hy => h y (List.mem_cons_of_mem _ hy)]
    rfl
theorem mapIf_filter {α β : Type} {t : α → R Bool} {f : α → R β} {p : α → Bool} {g : α → β} : ∀ {xs : List α}, (∀ x ∈ xs, t x = .ok (p x)) → (∀ x ∈ xs, p x = true → f x = .ok (g x)) → mapIf t f xs = .ok ((xs.filter p).map g)
  | [], _, _ => rfl
  | x :: xs, h1, h2 => by
    show (t x).bind (fun b => if b = true then (f x).bind (fun y => (mapIf t f xs).bind fun ys => .ok (y :: ys)) else mapIf t f xs) = _
    rw [h1 x List.mem_cons_self, R.bind_ok, mapIf_filter (fun y hy => h1 y (List.mem_cons_of_mem _ hy)) (fun y hy => h2 y (List.mem_cons_of_mem _ hy))]
    cases q : p x with
    | false =>
      rw [List.filter_cons, q]
      rfl
    | true =>
      rw [if_pos rfl, h2 x List.mem_cons_self q, List.filter_cons, q]
      rfl
theorem rng1_nat {n : Nat} (h : n ≤ 16777217) : rng1D (.d (.int (n : Int))) = .ok (upFrom 0 n) := by
  unfold rng1D
  simp only []
  rw [if_pos (by omega), Int.toNat_natCast]
theorem rng1_int {i : Int} (h0 : 0 ≤ i) (h : i ≤ 16777217) : rng1D (.d (.int i)) = .ok (upFrom 0 i.toNat) := by
  unfold rng1D
  simp only []
  rw [if_pos (by omega)]
theorem rev_nat {n : Nat} (h : n ≤ 16777217) : rngRevD (.d (.int (n : Int))) = .ok (stepFrom ((n : Int) - 1) (-1) n) := by
  unfold rngRevD
  simp only []
  rw [if_pos (by omega), Int.sub_zero, Int.toNat_natCast, Int.zero_add]
theorem down_nat {n : Nat} (h : n ≤ 16777217) : rngDownD (.d (.int ((n : Int) - 1))) (.d (.int (-1))) (.d (.int (-1))) = .ok (stepFrom ((n : Int) - 1) (-1) n) := by
  unfold rngDownD
  simp only []
  rw [if_pos (by omega), show ((n : Int) - 1 - -1).toNat = n by omega]
theorem upz_get {n i : Nat} {x : D} (h : (upFrom 0 n)[i]? = some x) : i < n ∧ x = .int (i : Int) := by
  unfold upFrom at h
  rw [List.getElem?_map, Option.map_eq_some_iff] at h
  obtain ⟨k, h1, rfl⟩ := h
  obtain ⟨hk, h2⟩ := List.getElem?_eq_some_iff.mp h1
  rw [List.length_range] at hk
  rw [List.getElem_range] at h2
  subst h2
  exact ⟨hk, by rw [Int.zero_add]⟩
theorem up_len {i : Int} {n : Nat} : (upFrom i n).length = n := by
  unfold upFrom
  rw [List.length_map, List.length_range]
theorem down_get {n i : Nat} {x : D} (h : (stepFrom ((n : Int) - 1) (-1) n)[i]? = some x) : i < n ∧ x = .int ((n - 1 - i : Nat) : Int) := by
  unfold stepFrom at h
  rw [List.getElem?_map, Option.map_eq_some_iff] at h
  obtain ⟨k, h1, rfl⟩ := h
  obtain ⟨hk, h2⟩ := List.getElem?_eq_some_iff.mp h1
  rw [List.length_range] at hk
  rw [List.getElem_range] at h2
  subst h2
  exact ⟨hk, by congr 1; omega⟩
theorem step_len {i c : Int} {n : Nat} : (stepFrom i c n).length = n := by
  unfold stepFrom
  rw [List.length_map, List.length_range]
end DL
/-! ## DL, part 11: slices, lists in the making -/
namespace DL
open PySem
theorem cut_all {α : Type} (xs : List α) : cutD xs none none = xs := by
  unfold cutD
  rw [HT.sIx_none, HT.sIx_none, List.drop_zero, Nat.sub_zero, List.take_length]
theorem cut_to {α : Type} (xs : List α) (b : Nat) : cutD xs none (some (b : Int)) = xs.take b := by
  unfold cutD
  rw [HT.sIx_none, HT.sIx_nat, List.drop_zero, Nat.sub_zero]
  by_cases h : b ≤ xs.length
  · rw [Nat.min_eq_left h]
  · rw [Nat.min_eq_right (by omega), List.take_length, List.take_of_length_le (by omega)]
theorem cut_from {α : Type} (xs : List α) (a : Nat) : cutD xs (some (a : Int)) none = xs.drop a := by
  unfold cutD
  rw [HT.sIx_none, HT.sIx_nat]
  by_cases h : a ≤ xs.length
  · rw [Nat.min_eq_left h, List.take_of_length_le (by rw [List.length_drop]; omega)]
  · rw [Nat.min_eq_right (by omega), Nat.sub_self, List.take_zero, List.drop_of_length_le (by omega)]
theorem cut_nat {α : Type} (xs : List α) (a b : Nat) : cutD xs (some (a : Int)) (some (b : Int)) = (xs.drop a).take (b - a) := by
  unfold cutD
  rw [HT.sIx_nat, HT.sIx_nat]
  by_cases h : a ≤ xs.length
  · rw [Nat.min_eq_left h]
    by_cases h2 : b ≤ xs.length
    · rw [Nat.min_eq_left h2]
    · rw [Nat.min_eq_right (by omega), List.take_of_length_le (by rw [List.length_drop]; omega), List.take_of_length_le (by rw [List.length_drop]; omega)]
  · rw [Nat.min_eq_right (by omega : xs.length ≤ a), List.drop_of_length_le (Nat.le_refl _), List.drop_of_length_le (by omega), List.take_nil, List.take_nil]
@[simp] theorem slice_list {xs : List D} {l u : Option Int} : sliceD (.d (.list xs)) l u = .ok (.own (cutD xs l u)) := rfl
@[simp] theorem slice_own {xs : List D} {l u : Option Int} : sliceD (.own xs) l u = .ok (.own (cutD xs l u)) := rfl
@[simp] theorem slice_tuple {xs : List D} {l u : Option Int} : sliceD (.d (.tuple xs)) l u = .ok (.d (.tuple (cutD xs l u))) := rfl
theorem mapR_cells {ys : List D} : mapR asD (ys.map Cell.d) = .ok ys := by
  rw [mapR_map (g := fun c => match c with | .d x => x | _ => .none)]
  · rw [List.map_map]
    congr 1
    exact List.map_id ys
  · intro c hc
    obtain ⟨y, _, rfl⟩ := List.mem_map.mp hc
    rfl
theorem mapR_rows {ys : List (List D)} : mapR asRow (ys.map Cell.own) = .ok ys := by
  rw [mapR_map (g := fun c => match c with | .own x => x | _ => [])]
  · rw [List.map_map]
    congr 1
    exact List.map_id ys
  · intro c hc
    obtain ⟨y, _, rfl⟩ := List.mem_map.mp hc
    rfl
theorem lcL_cells {ys : List D} (h : ys.length ≤ 16777216) : lcL (.ok (ys.map Cell.d)) = .ok (.own ys) := by
  show (match mapR asD (ys.map Cell.d) with | .ok ds => if ds.length ≤ 16777216 then R.ok (Cell.own ds) else .no | _ => .no) = _
  rw [mapR_cells]
  exact if_pos h
theorem lcR_cells {ys : List (List D)} (h : ys.length ≤ 16777216) : lcR (.ok (ys.map Cell.own)) = .ok (.own2 ys) := by
  show (match mapR asRow (ys.map Cell.own) with | .ok ds => if ds.length ≤ 16777216 then R.ok (Cell.own2 ds) else .no | _ => .no) = _
  rw [mapR_rows]
  exact if_pos h
/-- [f for t in xs if p] -/
theorem lcL_filter {vs : List Nat} {i : Nat} {c : Env → R Bool} {f : Env → R Cell} {xs : List D} {e : Env} {p : D → Bool} {g : D → D} (hl : xs.length ≤ 16777216)
    (hc : ∀ x ∈ xs, c ((wipeC e vs).set i (.d x)) = .ok (p x)) (hf : ∀ x ∈ xs, p x = true → f ((wipeC e vs).set i (.d x)) = .ok (.d (g x))) :
    lcL (lcD vs (.nm i) c f xs e) = .ok (.own ((xs.filter p).map g)) := by
  show lcL (mapIf (fun x => c ((wipeC e vs).set i (.d x))) (fun x => f ((wipeC e vs).set i (.d x))) xs) = _
  rw [mapIf_filter (p := p) (g := fun x => Cell.d (g x)) hc hf]
  have e : (xs.filter p).map (fun x => Cell.d (g x)) = ((xs.filter p).map g).map Cell.d := by rw [List.map_map]; rfl
  rw [e]
  exact lcL_cells (by rw [List.length_map]; exact Nat.le_trans (List.length_filter_le _ _) hl)
theorem lcL_map {vs : List Nat} {i : Nat} {f : Env → R Cell} {xs : List D} {e : Env} {g : D → D} (hl : xs.length ≤ 16777216)
    (hf : ∀ x ∈ xs, f ((wipeC e vs).set i (.d x)) = .ok (.d (g x))) :
    lcL (lcD vs (.nm i) (fun _ => .ok true) f xs e) = .ok (.own (xs.map g)) := by
  have := lcL_filter (vs := vs) (i := i) (c := fun _ => .ok true) (f := f) (e := e) (p := fun _ => true) (g := g) hl (fun _ _ => rfl) (fun x hx _ => hf x hx)
  rw [this, List.filter_eq_self.mpr fun _ _ => rfl]
theorem lcR_map {vs : List Nat} {i : Nat} {f : Env → R Cell} {xs : List D} {e : Env} {g : D → List D} (hl : xs.length ≤ 16777216)
    (hf : ∀ x ∈ xs, f ((wipeC e vs).set i (.d x)) = .ok (.own (g x))) :
    lcR (lcD vs (.nm i) (fun _ => .ok true) f xs e) = .ok (.own2 (xs.map g)) := by
  show lcR (mapIf (fun x => R.ok true) (fun x => f ((wipeC e vs).set i (.d x))) xs) = _
  rw [mapIf_filter (p := fun _ => true) (g := fun x => Cell.own (g x)) (fun _ _ => rfl) (fun x hx _ => hf x hx), List.filter_eq_self.mpr fun _ _ => rfl]
  have e : xs.map (fun x => Cell.own (g x)) = (xs.map g).map Cell.own := by rw [List.map_map]; rfl
  rw [e]
  exact lcR_cells (by rw [List.length_map]; exact hl)
/-- .. when its items are known to be of a kind only -/
theorem lcL_some {α : Type} {em : α → D} {P : α → Prop} {vs : List Nat} {i : Nat} {f : Env → R Cell} {xs : List D} {e : Env} (hl : xs.length ≤ 16777216)
    (hf : ∀ x ∈ xs, ∃ y, P y ∧ f ((wipeC e vs).set i (.d x)) = .ok (.d (em y))) :
    ∃ ys : List α, ys.length = xs.length ∧ (∀ y ∈ ys, P y) ∧ lcL (lcD vs (.nm i) (fun _ => .ok true) f xs e) = .ok (.own (ys.map em)) := by
  have go : ∀ zs : List D, (∀ z ∈ zs, ∃ y, P y ∧ f ((wipeC e vs).set i (.d z)) = .ok (.d (em y))) → ∃ ys : List α, ys.length = zs.length ∧ (∀ y ∈ ys, P y) ∧ lcD vs (.nm i) (fun _ => .ok true) f zs e = .ok ((ys.map em).map Cell.d) := by
    intro zs
    induction zs with
    | nil => exact fun _ => ⟨[], rfl, by simp, rfl⟩
    | cons z zs ih =>
      intro h
      obtain ⟨y, py, hy⟩ := h z List.mem_cons_self
      obtain ⟨ys, l, p, q⟩ := ih fun w hw => h w (List.mem_cons_of_mem _ hw)
      refine ⟨y :: ys, by simp [l], ?_, ?_⟩
      · intro w hw
        rcases List.mem_cons.mp hw with rfl | hw
        · exact py
        · exact p w hw
      · show (R.ok true).bind (fun b => if b = true then (f ((wipeC e vs).set i (.d z))).bind (fun y => (lcD vs (.nm i) (fun _ => .ok true) f zs e).bind fun ys => .ok (y :: ys)) else lcD vs (.nm i) (fun _ => .ok true) f zs e) = _
        rw [R.bind_ok, if_pos rfl, hy, R.bind_ok, q]
        rfl
  obtain ⟨ys, l, p, q⟩ := go xs hf
  exact ⟨ys, l, p, by rw [q]; exact lcL_cells (by rw [List.length_map, l]; exact hl)⟩
theorem setAt_nat {α : Type} {xs : List α} {k : Nat} {a : α} (h : k < xs.length) : setAt xs (k : Int) a = some (xs.set k a) := by
  unfold setAt
  rw [ix_nat h]
  rfl
theorem mulD_one {x : D} {n : Nat} (h : n ≤ 16777216) : mulD (.own [x]) (.d (.int (n : Int))) = .ok (.own (List.replicate n x)) := by
  rw [mulD_own ⟨by omega, by omega, by simp; omega⟩, Int.toNat_natCast]
  have : ∀ m : Nat, (List.replicate m [x]).flatten = List.replicate m x := fun m => by
    induction m with
    | zero => rfl
    | succ m ih => rw [List.replicate_succ, List.flatten_cons, ih]; rfl
  rw [this]
@[simp] theorem wipe_nil {e : Env} : wipeC e [] = e := rfl
@[simp] theorem wipe_cons {e : Env} {i : Nat} {r : List Nat} : wipeC e (i :: r) = (wipeC e r).set i .un := rfl
end DL
namespace K92
open DL L2
def g_law_cell : DL.Env → Out := fun en =>
  (((((getC 1 en).bind fun x => ((getC 0 en).bind lenD).bind fun y => intB (fun i j => decide (i < j)) x y).bind asB).into en fun b => if b = true then ((((getC 0 en).bind fun x => (getC 1 en).bind fun y => idxD x y).bind Cell.val).into en .rt) else (Out.nx en)).andThen fun en => ((cstD (.int 0) en).into en .rt))
def m_law_cell : List D → R Cell := runD 2 2 g_law_cell
def l0_law_draw : DL.Env → Out :=
  fun en => ((ownAt 4 en fun xs => (((getC 3 en).bind fun x => (getC 7 en).bind fun y => modD x y).bind asD).into en fun d => if xs.length < 16777216 then .nx (en.set 4 (.own (xs ++ [d]))) else .no).andThen fun en => (((getC 3 en).bind fun x => (getC 7 en).bind fun y => divD x y).into en (setR 3 en)))
def l1_law_draw : DL.Env → Out :=
  fun en => (((((((getC 5 en).bind fun x => (cstD (.int 48271) en).bind fun y => mulD x y).bind fun x => (cstD (.int 11) en).bind fun y => addD x y).bind fun x => (getC 6 en).bind fun y => addD x y).bind fun x => (cstD (.int 2147483647) en).bind fun y => modD x y).into en (setR 5 en)).andThen fun en => ((((((getC 5 en).bind fun x => (cstD (.int 69621) en).bind fun y => mulD x y).bind fun x => (cstD (.int 3) en).bind fun y => addD x y).bind fun x => (cstD (.int 2147483647) en).bind fun y => modD x y).into en (setR 5 en)).andThen fun en => (ownAt 4 en fun xs => ((((getC 5 en).bind fun x => (cstD (.int 7) en).bind fun y => divD x y).bind fun x => ((getC 2 en).bind fun x => (getC 6 en).bind fun y => idxD x y).bind fun y => modD x y).bind asD).into en fun d => if xs.length < 16777216 then .nx (en.set 4 (.own (xs ++ [d]))) else .no)))
def g_law_draw : DL.Env → Out := fun en =>
  ((((consR (varD 0 en) (consR (varD 1 en) (R.ok []))).bind m_law_cell).into en (setR 3 en)).andThen fun en => (((((getC 3 en).bind fun x => (cstD (.int 0) en).bind fun y => intB (fun i j => decide (i < j)) x y).bind asB).into en fun b => if b = true then (((getC 3 en).bind negD).into en (setR 3 en)) else (Out.nx en)).andThen fun en => (((lstR (R.ok [])).into en (setR 4 en)).andThen fun en => (((((getC 3 en).bind fun x => ((cstD (.int 10) en).bind fun x => (cstD (.int 18) en).bind fun y => powD x y).bind fun y => intB (fun i j => decide (j ≤ i)) x y).bind asB).into en fun b => if b = true then ((((getC 3 en).bind fun x => ((cstD (.int 10) en).bind fun x => (cstD (.int 18) en).bind fun y => powD x y).bind fun y => intI (fun i j => i - j) x y).into en (setR 3 en)).andThen fun en => ((((varD 2 en).bind itemsR).into en fun xs => forD (turnD (.nm 7) l0_law_draw) xs en).andThen fun en => ((getC 4 en).into en .rt))) else (Out.nx en)).andThen fun en => ((((((getC 3 en).bind fun x => (cstD (.int 1) en).bind fun y => addD x y).bind fun x => ((cstD (.int 31) en).bind fun x => (getC 1 en).bind fun y => mulD x y).bind fun y => addD x y).bind fun x => (cstD (.int 2147483647) en).bind fun y => modD x y).into en (setR 5 en)).andThen fun en => (((((getC 2 en).bind lenD).bind rng1D).into en fun xs => forD (turnD (.nm 6) l1_law_draw) xs en).andThen fun en => ((getC 4 en).into en .rt)))))))
def m_law_draw : List D → R Cell := runD 8 3 g_law_draw
def g_law_pool : DL.Env → Out := fun en =>
  (((lstR (consR (tupR (consR (cstD (.str (PySem.Str.ofString "const")) en) (consR (cstD (.str (PySem.Str.ofString "a")) en) (consR (tupR (consR (cstD (.str (PySem.Str.ofString "number")) en) (consR (cstD (.int 1) en) (R.ok [])))) (R.ok []))))) (consR (tupR (consR (cstD (.str (PySem.Str.ofString "const")) en) (consR (cstD (.str (PySem.Str.ofString "b")) en) (consR (tupR (consR (cstD (.str (PySem.Str.ofString "sum")) en) (consR (cstD (.str (PySem.Str.ofString "+")) en) (consR (tupR (consR (cstD (.str (PySem.Str.ofString "name")) en) (consR (cstD (.str (PySem.Str.ofString "a")) en) (R.ok [])))) (consR (tupR (consR (cstD (.str (PySem.Str.ofString "number")) en) (consR (cstD (.int 2) en) (R.ok [])))) (R.ok [])))))) (R.ok []))))) (consR (tupR (consR (cstD (.str (PySem.Str.ofString "define")) en) (consR (cstD (.str (PySem.Str.ofString "c")) en) (consR (tupR (consR (cstD (.str (PySem.Str.ofString "true")) en) (R.ok []))) (R.ok []))))) (R.ok []))))).into en (setR 0 en)).andThen fun en => ((ownAt 0 en fun xs => ((tupR (consR (cstD (.str (PySem.Str.ofString "part")) en) (consR (cstD (.str (PySem.Str.ofString "p")) en) (consR (tupR (consR (tupR (consR (cstD (.str (PySem.Str.ofString "var")) en) (consR (cstD (.str (PySem.Str.ofString "x")) en) (consR (tupR (consR (cstD (.str (PySem.Str.ofString "number")) en) (consR (cstD (.int 0) en) (R.ok [])))) (consR (tupR (consR (cstD (.str (PySem.Str.ofString "number")) en) (consR (cstD (.int 3) en) (R.ok [])))) (consR (cstD .none en) (R.ok []))))))) (consR (tupR (consR (cstD (.str (PySem.Str.ofString "move")) en) (consR (cstD (.str (PySem.Str.ofString "m")) en) (consR (cstD .none en) (consR (tupR (R.ok [])) (R.ok [])))))) (R.ok [])))) (R.ok []))))).bind asD).into en fun d => if xs.length < 16777216 then .nx (en.set 0 (.own (xs ++ [d]))) else .no).andThen fun en => ((ownAt 0 en fun xs => ((tupR (consR (cstD (.str (PySem.Str.ofString "sensor")) en) (consR (cstD (.str (PySem.Str.ofString "s")) en) (consR (tupR (consR (cstD (.str (PySem.Str.ofString "dotted")) en) (consR (cstD (.str (PySem.Str.ofString "p")) en) (consR (cstD (.str (PySem.Str.ofString "x")) en) (R.ok []))))) (consR (tupR (consR (cstD (.str (PySem.Str.ofString "number")) en) (consR (cstD (.int 1) en) (R.ok [])))) (consR (cstD (.bool true) en) (R.ok []))))))).bind asD).into en fun d => if xs.length < 16777216 then .nx (en.set 0 (.own (xs ++ [d]))) else .no).andThen fun en => ((ownAt 0 en fun xs => ((tupR (consR (cstD (.str (PySem.Str.ofString "require")) en) (consR (cstD (.str (PySem.Str.ofString "r")) en) (consR (tupR (consR (cstD (.str (PySem.Str.ofString "once")) en) (consR (cstD .none en) (consR (tupR (consR (cstD (.str (PySem.Str.ofString "compare")) en) (consR (cstD (.str (PySem.Str.ofString "=")) en) (consR (tupR (consR (cstD (.str (PySem.Str.ofString "dotted")) en) (consR (cstD (.str (PySem.Str.ofString "p")) en) (consR (cstD (.str (PySem.Str.ofString "x")) en) (R.ok []))))) (consR (tupR (consR (cstD (.str (PySem.Str.ofString "number")) en) (consR (cstD (.int 3) en) (R.ok [])))) (R.ok [])))))) (R.ok []))))) (R.ok []))))).bind asD).into en fun d => if xs.length < 16777216 then .nx (en.set 0 (.own (xs ++ [d]))) else .no).andThen fun en => (((getC 0 en).bind fun x => (lstR (consR (tupR (consR (cstD (.str (PySem.Str.ofString "const")) en) (consR (cstD (.str (PySem.Str.ofString "a")) en) (consR (tupR (consR (cstD (.str (PySem.Str.ofString "number")) en) (consR (cstD (.int 2) en) (R.ok [])))) (R.ok []))))) (consR (tupR (consR (cstD (.str (PySem.Str.ofString "part")) en) (consR (cstD (.str (PySem.Str.ofString "q")) en) (consR (tupR (R.ok [])) (R.ok []))))) (R.ok [])))).bind fun y => addD x y).into en .rt)))))
def m_law_pool : List D → R Cell := runD 1 0 g_law_pool
def g_law_some_tree : DL.Env → Out := fun en =>
  (((m_law_pool []).quiet.into en (setR 3 en)).andThen fun en => ((((consR (varD 0 en) (consR (varD 1 en) (consR ((lstR (consR (cstD (.int 8) en) (R.ok []))).bind fun x => (cstD (.int 10) en).bind fun y => mulD x y) (R.ok [])))).bind m_law_draw).into en (setR 4 en)).andThen fun en => (((((((getC 4 en).bind fun x => (cstD (.int 0) en).bind fun y => idxD x y).bind Cell.val).bind rng1D).bind fun xs => lcL (lcD ([5] : List Nat) (.nm 5) (fun en => (R.ok true)) (fun en => (((getC 3 en).bind fun x => (((getC 4 en).bind fun x => ((cstD (.int 1) en).bind fun x => (getC 5 en).bind fun y => addD x y).bind fun y => idxD x y).bind fun x => (getC 2 en).bind fun y => modD x y).bind fun y => idxD x y).bind Cell.val)) xs en)).bind tupleD).into en .rt)))
def m_law_some_tree : List D → R Cell := runD 6 3 g_law_some_tree
def l0_law_near_tree : DL.Env → Out :=
  fun en => ((((consR (varD 0 en) (consR (((getC 1 en).bind fun x => (cstD (.int 1) en).bind fun y => addD x y).bind fun x => (getC 5 en).bind fun y => addD x y) (consR (lstR (consR (cstD (.int 3) en) (consR (cstD (.int 8) en) (consR (cstD (.int 8) en) (R.ok []))))) (R.ok [])))).bind m_law_draw).into en (setR 6 en)).andThen fun en => (((((getC 6 en).bind fun x => (cstD (.int 1) en).bind fun y => idxD x y).bind fun x => (((getC 4 en).bind lenD).bind fun x => (cstD (.int 1) en).bind fun y => addD x y).bind fun y => modD x y).into en (setR 7 en)).andThen fun en => (((andR ((((getC 6 en).bind fun x => (cstD (.int 0) en).bind fun y => idxD x y).bind fun x => (cstD (.int 2) en).bind fun y => intB (fun i j => decide (i < j)) x y).bind asB) (((getC 7 en).bind fun x => ((getC 4 en).bind lenD).bind fun y => intB (fun i j => decide (i < j)) x y).bind asB)).into en fun b => if b = true then ((((getC 4 en).bind fun x => (R.ok none).bind fun l => ((varD 7 en).bind asI).bind fun u => sliceD x l u).bind fun x => ((getC 4 en).bind fun x => (((getC 7 en).bind fun x => (cstD (.int 1) en).bind fun y => addD x y).bind asI).bind fun l => (R.ok none).bind fun u => sliceD x l u).bind fun y => addD x y).into en (setR 4 en)) else (Out.nx en)).andThen fun en => (((((getC 6 en).bind fun x => (cstD (.int 0) en).bind fun y => idxD x y).bind fun x => (cstD (.int 0) en).bind fun y => intB (fun i j => decide (j < i)) x y).bind asB).into en fun b => if b = true then (((((getC 4 en).bind fun x => (R.ok none).bind fun l => ((varD 7 en).bind asI).bind fun u => sliceD x l u).bind fun x => (lstR (consR (((getC 3 en).bind fun x => ((getC 6 en).bind fun x => (cstD (.int 2) en).bind fun y => idxD x y).bind fun y => idxD x y).bind Cell.val) (R.ok []))).bind fun y => addD x y).bind fun x => ((getC 4 en).bind fun x => ((varD 7 en).bind asI).bind fun l => (R.ok none).bind fun u => sliceD x l u).bind fun y => addD x y).into en (setR 4 en)) else (Out.nx en)))))
def g_law_near_tree : DL.Env → Out := fun en =>
  (((m_law_pool []).quiet.into en (setR 3 en)).andThen fun en => ((((getC 2 en).bind listD).into en (setR 4 en)).andThen fun en => (((((((consR (varD 0 en) (consR (varD 1 en) (consR (lstR (consR (cstD (.int 4) en) (R.ok []))) (R.ok [])))).bind m_law_draw).bind fun x => (cstD (.int 0) en).bind fun y => idxD x y).bind Cell.val).bind rng1D).into en fun xs => forD (turnD (.nm 5) l0_law_near_tree) xs en).andThen fun en => (((getC 4 en).bind tupleD).into en .rt))))
def m_law_near_tree : List D → R Cell := runD 8 3 g_law_near_tree
def l0_law_alike (rec : List D → R Cell) : DL.Env → Out :=
  fun en => ((notR (((consR (((getC 0 en).bind fun x => (getC 2 en).bind fun y => idxD x y).bind Cell.val) (consR (((getC 1 en).bind fun x => (getC 2 en).bind fun y => idxD x y).bind Cell.val) (R.ok []))).bind rec).bind asB)).into en fun b => if b = true then ((cstD (.bool false) en).into en .rt) else (Out.nx en))
def g_law_alike (rec : List D → R Cell) : DL.Env → Out := fun en =>
  (((((getC 1 en).bind isNoneD).bind asB).into en fun b => if b = true then (((getC 0 en).bind isNoneD).into en .rt) else (Out.nx en)).andThen fun en => (((((getC 1 en).bind (isiD "bool")).bind asB).into en fun b => if b = true then ((andV ((getC 0 en).bind (isiD "bool")) ((getC 0 en).bind fun x => (getC 1 en).bind fun y => eqD x y)).into en .rt) else (Out.nx en)).andThen fun en => (((((getC 1 en).bind (isiD "int")).bind asB).into en fun b => if b = true then ((andV ((getC 0 en).bind (isiD "int")) (andV (notV ((getC 0 en).bind (isiD "bool"))) ((getC 0 en).bind fun x => (getC 1 en).bind fun y => eqD x y))).into en .rt) else (Out.nx en)).andThen fun en => (((((getC 1 en).bind (isiD "str")).bind asB).into en fun b => if b = true then ((andV ((getC 0 en).bind (isiD "str")) ((getC 0 en).bind fun x => (getC 1 en).bind fun y => eqD x y)).into en .rt) else (Out.nx en)).andThen fun en => (((andR (((getC 1 en).bind (isiD "tuple")).bind asB) (notR (((getC 0 en).bind (isiD "tuple")).bind asB))).into en fun b => if b = true then ((cstD (.bool false) en).into en .rt) else (Out.nx en)).andThen fun en => (((andR (((getC 1 en).bind (isiD "list")).bind asB) (notR (((getC 0 en).bind (isiD "list")).bind asB))).into en fun b => if b = true then ((cstD (.bool false) en).into en .rt) else (Out.nx en)).andThen fun en => ((((((getC 0 en).bind lenD).bind fun x => ((getC 1 en).bind lenD).bind fun y => neD x y).bind asB).into en fun b => if b = true then ((cstD (.bool false) en).into en .rt) else (Out.nx en)).andThen fun en => (((((getC 1 en).bind lenD).bind rng1D).into en fun xs => forD (turnD (.nm 2) (l0_law_alike rec)) xs en).andThen fun en => ((cstD (.bool true) en).into en .rt)))))))))
def m_law_alike : Nat → List D → R Cell
  | 0 => fun _ => .no
  | n + 1 => runD 3 2 (g_law_alike (m_law_alike n))
theorem mn_law_alike : ∀ (n : Nat) (ds : List D), ds.length ≠ 2 → m_law_alike n ds = .no
  | 0, _, _ => rfl
  | _ + 1, ds, h => runD_no ds h
def l0_law_table_of : DL.Env → Out :=
  fun en => (((((getC 0 en).bind fun x => (getC 3 en).bind fun y => idxD x y).bind fun x => ((getC 1 en).bind fun x => (getC 4 en).bind fun y => idxD x y).bind fun y => eqD x y).bind asB).into en fun b => if b = true then ((((((getC 2 en).bind fun x => ((getC 3 en).bind fun x => (cstD (.int 1) en).bind fun y => addD x y).bind fun y => idxD x y).bind fun x => ((getC 4 en).bind fun x => (cstD (.int 1) en).bind fun y => addD x y).bind fun y => idxD x y).bind fun x => (cstD (.int 1) en).bind fun y => addD x y).bind asD).into en fun d => own2At 2 en fun xss => ((varD 3 en).bind cellI).into en fun k => match ixN xss.length k with | none => .no | some n => ((varD 4 en).bind cellI).into en fun j => match setAt (xss.getD n []) j d with | some ys => .nx (en.set 2 (.own2 (xss.set n ys))) | none => .no) else ((((((getC 2 en).bind fun x => ((getC 3 en).bind fun x => (cstD (.int 1) en).bind fun y => addD x y).bind fun y => idxD x y).bind fun x => (getC 4 en).bind fun y => idxD x y).bind fun y => (((getC 2 en).bind fun x => (getC 3 en).bind fun y => idxD x y).bind fun x => ((getC 4 en).bind fun x => (cstD (.int 1) en).bind fun y => addD x y).bind fun y => idxD x y).bind fun z => maxD y z).bind asD).into en fun d => own2At 2 en fun xss => ((varD 3 en).bind cellI).into en fun k => match ixN xss.length k with | none => .no | some n => ((varD 4 en).bind cellI).into en fun j => match setAt (xss.getD n []) j d with | some ys => .nx (en.set 2 (.own2 (xss.set n ys))) | none => .no))
def l1_law_table_of : DL.Env → Out :=
  fun en => (((((getC 1 en).bind lenD).bind fun x => (cstD (.int 1) en).bind fun y => intI (fun i j => i - j) x y).bind fun x => ((cstD (.int 0) en).bind fun x => (cstD (.int 1) en).bind fun y => intI (fun i j => i - j) x y).bind fun y => ((cstD (.int 0) en).bind fun x => (cstD (.int 1) en).bind fun y => intI (fun i j => i - j) x y).bind fun z => rngDownD x y z).into en fun xs => forD (turnD (.nm 4) l0_law_table_of) xs en)
def g_law_table_of : DL.Env → Out := fun en =>
  (((((((getC 0 en).bind lenD).bind fun x => (cstD (.int 1) en).bind fun y => addD x y).bind rng1D).bind fun xs => lcR (lcD ([3] : List Nat) (.nm 3) (fun en => (R.ok true)) (fun en => (((((getC 1 en).bind lenD).bind fun x => (cstD (.int 1) en).bind fun y => addD x y).bind rng1D).bind fun xs => lcL (lcD ([4] : List Nat) (.nm 4) (fun en => (R.ok true)) (fun en => (cstD (.int 0) en)) xs en))) xs en)).into en (setR 2 en)).andThen fun en => ((((((getC 0 en).bind lenD).bind fun x => (cstD (.int 1) en).bind fun y => intI (fun i j => i - j) x y).bind fun x => ((cstD (.int 0) en).bind fun x => (cstD (.int 1) en).bind fun y => intI (fun i j => i - j) x y).bind fun y => ((cstD (.int 0) en).bind fun x => (cstD (.int 1) en).bind fun y => intI (fun i j => i - j) x y).bind fun z => rngDownD x y z).into en fun xs => forD (turnD (.nm 3) l1_law_table_of) xs en).andThen fun en => ((getC 2 en).into en .rt)))
def m_law_table_of : List D → R Cell := runD 5 2 g_law_table_of
def l0_law_partners : DL.Env → R Bool :=
  fun en => (andR (((getC 4 en).bind fun x => ((getC 1 en).bind lenD).bind fun y => intB (fun i j => decide (i < j)) x y).bind asB) (andR ((((getC 0 en).bind fun x => (getC 5 en).bind fun y => idxD x y).bind fun x => ((getC 1 en).bind fun x => (getC 4 en).bind fun y => idxD x y).bind fun y => neD x y).bind asB) (((((getC 2 en).bind fun x => ((getC 5 en).bind fun x => (cstD (.int 1) en).bind fun y => addD x y).bind fun y => idxD x y).bind fun x => (getC 4 en).bind fun y => idxD x y).bind fun x => (((getC 2 en).bind fun x => (getC 5 en).bind fun y => idxD x y).bind fun x => ((getC 4 en).bind fun x => (cstD (.int 1) en).bind fun y => addD x y).bind fun y => idxD x y).bind fun y => intB (fun i j => decide (i < j)) x y).bind asB)))
def l1_law_partners : DL.Env → Out :=
  fun en => (((getC 4 en).bind fun x => (cstD (.int 1) en).bind fun y => addD x y).into en (setR 4 en))
def l2_law_partners : DL.Env → Out :=
  fun en => ((whileD l0_law_partners l1_law_partners 1000000 en).andThen fun en => ((andR (((getC 4 en).bind fun x => ((getC 1 en).bind lenD).bind fun y => intB (fun i j => decide (i < j)) x y).bind asB) ((((getC 0 en).bind fun x => (getC 5 en).bind fun y => idxD x y).bind fun x => ((getC 1 en).bind fun x => (getC 4 en).bind fun y => idxD x y).bind fun y => eqD x y).bind asB)).into en fun b => if b = true then ((((varD 4 en).bind asD).into en fun d => ownAt 3 en fun xs => ((varD 5 en).bind cellI).into en fun k => match setAt xs k d with | some ys => .nx (en.set 3 (.own ys)) | none => .no).andThen fun en => (((getC 4 en).bind fun x => (cstD (.int 1) en).bind fun y => addD x y).into en (setR 4 en))) else (Out.nx en)))
def g_law_partners : DL.Env → Out := fun en =>
  ((((consR (varD 0 en) (consR (varD 1 en) (R.ok []))).bind m_law_table_of).into en (setR 2 en)).andThen fun en => (((((getC 0 en).bind itemsR).bind fun xs => lcL (lcD ([6] : List Nat) (.nm 6) (fun en => (R.ok true)) (fun en => (cstD .none en)) xs en)).into en (setR 3 en)).andThen fun en => (((cstD (.int 0) en).into en (setR 4 en)).andThen fun en => (((((getC 0 en).bind lenD).bind rng1D).into en fun xs => forD (turnD (.nm 5) l2_law_partners) xs en).andThen fun en => ((getC 3 en).into en .rt)))))
def m_law_partners : List D → R Cell := runD 7 2 g_law_partners
def l0_law_due : DL.Env → Out :=
  fun en => (((lstR (consR ((getC 0 en).bind fun x => ((((getC 8 en).bind fun x => (cstD (.int 0) en).bind fun y => idxD x y).bind fun x => (cstD (.int 1) en).bind fun y => addD x y).bind asI).bind fun l => ((((getC 9 en).bind fun x => (cstD (.int 0) en).bind fun y => idxD x y).bind Cell.val).bind asI).bind fun u => sliceD x l u) (consR ((getC 1 en).bind fun x => ((((getC 8 en).bind fun x => (cstD (.int 1) en).bind fun y => idxD x y).bind fun x => (cstD (.int 1) en).bind fun y => addD x y).bind asI).bind fun l => ((((getC 9 en).bind fun x => (cstD (.int 1) en).bind fun y => idxD x y).bind Cell.val).bind asI).bind fun u => sliceD x l u) (consR ((getC 2 en).bind fun x => ((((getC 8 en).bind fun x => (cstD (.int 2) en).bind fun y => idxD x y).bind fun x => (cstD (.int 1) en).bind fun y => addD x y).bind asI).bind fun l => ((((getC 9 en).bind fun x => (cstD (.int 2) en).bind fun y => idxD x y).bind Cell.val).bind asI).bind fun u => sliceD x l u) (R.ok []))))).into en (setR 10 en)).andThen fun en => ((((((getC 10 en).bind fun x => (cstD (.int 1) en).bind fun y => idxD x y).bind fun x => ((getC 10 en).bind fun x => (cstD (.int 0) en).bind fun y => idxD x y).bind fun y => eqD x y).bind asB).into en fun b => if b = true then (((getC 7 en).bind fun x => ((getC 10 en).bind fun x => (cstD (.int 2) en).bind fun y => idxD x y).bind fun y => addD x y).into en (setR 7 en)) else ((orR ((((getC 10 en).bind fun x => (cstD (.int 2) en).bind fun y => idxD x y).bind fun x => ((getC 10 en).bind fun x => (cstD (.int 0) en).bind fun y => idxD x y).bind fun y => eqD x y).bind asB) ((((getC 10 en).bind fun x => (cstD (.int 1) en).bind fun y => idxD x y).bind fun x => ((getC 10 en).bind fun x => (cstD (.int 2) en).bind fun y => idxD x y).bind fun y => eqD x y).bind asB)).into en fun b => if b = true then (((getC 7 en).bind fun x => ((getC 10 en).bind fun x => (cstD (.int 1) en).bind fun y => idxD x y).bind fun y => addD x y).into en (setR 7 en)) else ((((getC 8 en).bind fun x => (cstD (.int 0) en).bind fun y => idxD x y).bind fun x => (cstD (.int 1) en).bind fun y => addD x y).into en .rt))).andThen fun en => ((((getC 7 en).bind fun x => ((getC 0 en).bind fun x => ((((getC 9 en).bind fun x => (cstD (.int 0) en).bind fun y => idxD x y).bind Cell.val).bind asI).bind fun l => ((((getC 9 en).bind fun x => (cstD (.int 0) en).bind fun y => idxD x y).bind fun x => (cstD (.int 1) en).bind fun y => addD x y).bind asI).bind fun u => sliceD x l u).bind fun y => addD x y).into en (setR 7 en)).andThen fun en => ((varD 9 en).into en (setR 8 en)))))
def g_law_due : DL.Env → Out := fun en =>
  ((((consR (varD 0 en) (consR (varD 1 en) (R.ok []))).bind m_law_partners).into en (setR 3 en)).andThen fun en => ((((consR (varD 0 en) (consR (varD 2 en) (R.ok []))).bind m_law_partners).into en (setR 4 en)).andThen fun en => ((((((getC 0 en).bind lenD).bind rng1D).bind fun xs => lcL (lcD ([11] : List Nat) (.nm 11) (fun en => (andR ((((getC 3 en).bind fun x => (getC 11 en).bind fun y => idxD x y).bind notNoneD).bind asB) ((((getC 4 en).bind fun x => (getC 11 en).bind fun y => idxD x y).bind notNoneD).bind asB))) (fun en => (varD 11 en)) xs en)).into en (setR 5 en)).andThen fun en => ((((((getC 5 en).bind itemsR).bind fun xs => lcL (lcD ([11] : List Nat) (.nm 11) (fun en => (R.ok true)) (fun en => (tupR (consR (varD 11 en) (consR (((getC 3 en).bind fun x => (getC 11 en).bind fun y => idxD x y).bind Cell.val) (consR (((getC 4 en).bind fun x => (getC 11 en).bind fun y => idxD x y).bind Cell.val) (R.ok [])))))) xs en)).bind fun x => (lstR (consR (tupR (consR ((getC 0 en).bind lenD) (consR ((getC 1 en).bind lenD) (consR ((getC 2 en).bind lenD) (R.ok []))))) (R.ok []))).bind fun y => addD x y).into en (setR 6 en)).andThen fun en => (((tupR (R.ok [])).into en (setR 7 en)).andThen fun en => (((tupR (consR ((cstD (.int 0) en).bind fun x => (cstD (.int 1) en).bind fun y => intI (fun i j => i - j) x y) (consR ((cstD (.int 0) en).bind fun x => (cstD (.int 1) en).bind fun y => intI (fun i j => i - j) x y) (consR ((cstD (.int 0) en).bind fun x => (cstD (.int 1) en).bind fun y => intI (fun i j => i - j) x y) (R.ok []))))).into en (setR 8 en)).andThen fun en => (((fun en => (((varD 6 en).bind itemsR).into en fun xs => forD (turnD (.nm 9) l0_law_due) xs en)) (freezeAll [6] en)).andThen fun en => ((getC 7 en).into en .rt))))))))
def m_law_due : List D → R Cell := runD 12 3 g_law_due
def l0_common_lengths : DL.Env → Out :=
  fun en => (((((getC 0 en).bind fun x => (getC 3 en).bind fun y => idxD x y).bind fun x => ((getC 1 en).bind fun x => (getC 4 en).bind fun y => idxD x y).bind fun y => eqD x y).bind asB).into en fun b => if b = true then ((((((getC 2 en).bind fun x => ((getC 3 en).bind fun x => (cstD (.int 1) en).bind fun y => addD x y).bind fun y => idxD x y).bind fun x => ((getC 4 en).bind fun x => (cstD (.int 1) en).bind fun y => addD x y).bind fun y => idxD x y).bind fun x => (cstD (.int 1) en).bind fun y => addD x y).bind asD).into en fun d => own2At 2 en fun xss => ((varD 3 en).bind cellI).into en fun k => match ixN xss.length k with | none => .no | some n => ((varD 4 en).bind cellI).into en fun j => match setAt (xss.getD n []) j d with | some ys => .nx (en.set 2 (.own2 (xss.set n ys))) | none => .no) else ((((((getC 2 en).bind fun x => ((getC 3 en).bind fun x => (cstD (.int 1) en).bind fun y => addD x y).bind fun y => idxD x y).bind fun x => (getC 4 en).bind fun y => idxD x y).bind fun y => (((getC 2 en).bind fun x => (getC 3 en).bind fun y => idxD x y).bind fun x => ((getC 4 en).bind fun x => (cstD (.int 1) en).bind fun y => addD x y).bind fun y => idxD x y).bind fun z => maxD y z).bind asD).into en fun d => own2At 2 en fun xss => ((varD 3 en).bind cellI).into en fun k => match ixN xss.length k with | none => .no | some n => ((varD 4 en).bind cellI).into en fun j => match setAt (xss.getD n []) j d with | some ys => .nx (en.set 2 (.own2 (xss.set n ys))) | none => .no))
def l1_common_lengths : DL.Env → Out :=
  fun en => ((((getC 1 en).bind lenD).bind rngRevD).into en fun xs => forD (turnD (.nm 4) l0_common_lengths) xs en)
def g_common_lengths : DL.Env → Out := fun en =>
  (((((((getC 0 en).bind lenD).bind fun x => (cstD (.int 1) en).bind fun y => addD x y).bind rng1D).bind fun xs => lcR (lcD ([5] : List Nat) (.nm 5) (fun en => (R.ok true)) (fun en => ((lstR (consR (cstD (.int 0) en) (R.ok []))).bind fun x => (((getC 1 en).bind lenD).bind fun x => (cstD (.int 1) en).bind fun y => addD x y).bind fun y => mulD x y)) xs en)).into en (setR 2 en)).andThen fun en => (((((getC 0 en).bind lenD).bind rngRevD).into en fun xs => forD (turnD (.nm 3) l1_common_lengths) xs en).andThen fun en => ((getC 2 en).into en .rt)))
def m_common_lengths : List D → R Cell := runD 6 2 g_common_lengths
def l0_partners_of : DL.Env → R Bool :=
  fun en => (andR (((getC 4 en).bind fun x => ((getC 0 en).bind lenD).bind fun y => intB (fun i j => decide (i < j)) x y).bind asB) (((getC 5 en).bind fun x => ((getC 1 en).bind lenD).bind fun y => intB (fun i j => decide (i < j)) x y).bind asB))
def l1_partners_of : DL.Env → Out :=
  fun en => (((((getC 0 en).bind fun x => (getC 4 en).bind fun y => idxD x y).bind fun x => ((getC 1 en).bind fun x => (getC 5 en).bind fun y => idxD x y).bind fun y => eqD x y).bind asB).into en fun b => if b = true then ((((varD 5 en).bind asD).into en fun d => ownAt 3 en fun xs => ((varD 4 en).bind cellI).into en fun k => match setAt xs k d with | some ys => .nx (en.set 3 (.own ys)) | none => .no).andThen fun en => ((((getC 4 en).bind cellI).into en fun k => ((cstD (.int 1) en).bind cellI).into en fun z => .nx (en.set 4 (.d (.int (k + z))))).andThen fun en => (((getC 5 en).bind cellI).into en fun k => ((cstD (.int 1) en).bind cellI).into en fun z => .nx (en.set 5 (.d (.int (k + z))))))) else ((((((getC 2 en).bind fun x => ((getC 4 en).bind fun x => (cstD (.int 1) en).bind fun y => addD x y).bind fun y => idxD x y).bind fun x => (getC 5 en).bind fun y => idxD x y).bind fun x => (((getC 2 en).bind fun x => (getC 4 en).bind fun y => idxD x y).bind fun x => ((getC 5 en).bind fun x => (cstD (.int 1) en).bind fun y => addD x y).bind fun y => idxD x y).bind fun y => intB (fun i j => decide (j ≤ i)) x y).bind asB).into en fun b => if b = true then (((getC 4 en).bind cellI).into en fun k => ((cstD (.int 1) en).bind cellI).into en fun z => .nx (en.set 4 (.d (.int (k + z))))) else (((getC 5 en).bind cellI).into en fun k => ((cstD (.int 1) en).bind cellI).into en fun z => .nx (en.set 5 (.d (.int (k + z)))))))
def g_partners_of : DL.Env → Out := fun en =>
  ((((consR (varD 0 en) (consR (varD 1 en) (R.ok []))).bind m_common_lengths).into en (setR 2 en)).andThen fun en => ((((lstR (consR (cstD .none en) (R.ok []))).bind fun x => ((getC 0 en).bind lenD).bind fun y => mulD x y).into en (setR 3 en)).andThen fun en => (((cstD (.int 0) en).into en (setR 4 en)).andThen fun en => (((cstD (.int 0) en).into en (setR 5 en)).andThen fun en => ((whileD l0_partners_of l1_partners_of 1000000 en).andThen fun en => ((getC 3 en).into en .rt))))))
def m_partners_of : List D → R Cell := runD 6 2 g_partners_of
def g_chosen_chunk : DL.Env → Out := fun en =>
  (((((getC 1 en).bind fun x => (getC 0 en).bind fun y => eqD x y).bind asB).into en fun b => if b = true then ((getC 2 en).into en .rt) else (Out.nx en)).andThen fun en => (((orR (((getC 2 en).bind fun x => (getC 0 en).bind fun y => eqD x y).bind asB) (((getC 1 en).bind fun x => (getC 2 en).bind fun y => eqD x y).bind asB)).into en fun b => if b = true then ((getC 1 en).into en .rt) else (Out.nx en)).andThen fun en => (((varD 3 en).bind asD).into en fun d => .ex (PySem.Str.ofString "Conflict") [(PySem.Str.ofString "place", d)] en)))
def m_chosen_chunk : List D → R Cell := runD 4 4 g_chosen_chunk
def l0_merge : DL.Env → Out :=
  fun en => (((((getC 7 en).bind fun x => ((getC 0 en).bind lenD).bind fun y => intB (fun i j => decide (i < j)) x y).bind asB).into en fun b => if b = true then ((tupR (consR (varD 7 en) (consR (((getC 3 en).bind fun x => (getC 7 en).bind fun y => idxD x y).bind Cell.val) (consR (((getC 4 en).bind fun x => (getC 7 en).bind fun y => idxD x y).bind Cell.val) (R.ok []))))).into en (setR 8 en)) else ((tupR (consR (varD 7 en) (consR ((getC 1 en).bind lenD) (consR ((getC 2 en).bind lenD) (R.ok []))))).into en (setR 8 en))).andThen fun en => ((andR ((((getC 8 en).bind fun x => (cstD (.int 1) en).bind fun y => idxD x y).bind notNoneD).bind asB) ((((getC 8 en).bind fun x => (cstD (.int 2) en).bind fun y => idxD x y).bind notNoneD).bind asB)).into en fun b => if b = true then (((((getC 0 en).bind fun x => ((((getC 6 en).bind fun x => (cstD (.int 0) en).bind fun y => idxD x y).bind Cell.val).bind asI).bind fun l => ((varD 7 en).bind asI).bind fun u => sliceD x l u).bind tupleD).into en (setR 9 en)).andThen fun en => ((((consR (varD 9 en) (consR (((getC 1 en).bind fun x => ((((getC 6 en).bind fun x => (cstD (.int 1) en).bind fun y => idxD x y).bind Cell.val).bind asI).bind fun l => ((((getC 8 en).bind fun x => (cstD (.int 1) en).bind fun y => idxD x y).bind Cell.val).bind asI).bind fun u => sliceD x l u).bind tupleD) (consR (((getC 2 en).bind fun x => ((((getC 6 en).bind fun x => (cstD (.int 2) en).bind fun y => idxD x y).bind Cell.val).bind asI).bind fun l => ((((getC 8 en).bind fun x => (cstD (.int 2) en).bind fun y => idxD x y).bind Cell.val).bind asI).bind fun u => sliceD x l u).bind tupleD) (consR (((getC 6 en).bind fun x => (cstD (.int 0) en).bind fun y => idxD x y).bind Cell.val) (R.ok []))))).bind m_chosen_chunk).into en (setR 10 en)).andThen fun en => ((((getC 5 en).bind fun x => ((getC 10 en).bind listD).bind fun y => addD x y).into en (setR 5 en)).andThen fun en => ((((getC 7 en).bind fun x => ((getC 0 en).bind lenD).bind fun y => intB (fun i j => decide (i < j)) x y).bind asB).into en fun b => if b = true then ((ownAt 5 en fun xs => ((((getC 0 en).bind fun x => (getC 7 en).bind fun y => idxD x y).bind Cell.val).bind asD).into en fun d => if xs.length < 16777216 then .nx (en.set 5 (.own (xs ++ [d]))) else .no).andThen fun en => ((tupR (consR ((getC 7 en).bind fun x => (cstD (.int 1) en).bind fun y => addD x y) (consR (((getC 8 en).bind fun x => (cstD (.int 1) en).bind fun y => idxD x y).bind fun x => (cstD (.int 1) en).bind fun y => addD x y) (consR (((getC 8 en).bind fun x => (cstD (.int 2) en).bind fun y => idxD x y).bind fun x => (cstD (.int 1) en).bind fun y => addD x y) (R.ok []))))).into en (setR 6 en))) else (Out.nx en))))) else (Out.nx en)))
def g_merge : DL.Env → Out := fun en =>
  ((((consR (varD 0 en) (consR (varD 1 en) (R.ok []))).bind m_partners_of).into en (setR 3 en)).andThen fun en => ((((consR (varD 0 en) (consR (varD 2 en) (R.ok []))).bind m_partners_of).into en (setR 4 en)).andThen fun en => (((lstR (R.ok [])).into en (setR 5 en)).andThen fun en => (((tupR (consR (cstD (.int 0) en) (consR (cstD (.int 0) en) (consR (cstD (.int 0) en) (R.ok []))))).into en (setR 6 en)).andThen fun en => ((((((getC 0 en).bind lenD).bind fun x => (cstD (.int 1) en).bind fun y => addD x y).bind rng1D).into en fun xs => forD (turnD (.nm 7) l0_merge) xs en).andThen fun en => (((getC 5 en).bind tupleD).into en .rt))))))
def m_merge : List D → R Cell := runD 11 3 g_merge
def g_law_merged : DL.Env → Out := fun en =>
  (tryF 3 (PySem.Str.ofString "Conflict") (PySem.Str.ofString "place") (((consR (varD 0 en) (consR (varD 1 en) (consR (varD 2 en) (R.ok [])))).bind m_merge).into en .rt))
def m_law_merged : List D → R Cell := runD 4 3 g_law_merged
def g_law : DL.Env → Out := fun en =>
  ((((consR (varD 0 en) (consR (cstD (.int 0) en) (consR (cstD (.int 8) en) (R.ok [])))).bind m_law_some_tree).into en (setR 1 en)).andThen fun en => ((((consR (varD 0 en) (consR (cstD (.int 1) en) (consR (varD 1 en) (R.ok [])))).bind m_law_near_tree).into en (setR 2 en)).andThen fun en => ((((consR (varD 0 en) (consR (cstD (.int 6) en) (consR (varD 1 en) (R.ok [])))).bind m_law_near_tree).into en (setR 3 en)).andThen fun en => (((((((consR (varD 0 en) (consR (cstD (.int 11) en) (consR (lstR (consR (cstD (.int 4) en) (R.ok []))) (R.ok [])))).bind m_law_draw).bind fun x => (cstD (.int 0) en).bind fun y => idxD x y).bind fun x => (cstD (.int 0) en).bind fun y => eqD x y).bind asB).into en fun b => if b = true then (((consR (varD 0 en) (consR (cstD (.int 6) en) (consR (varD 2 en) (R.ok [])))).bind m_law_near_tree).into en (setR 3 en)) else (Out.nx en)).andThen fun en => (((notR (((consR ((consR (varD 1 en) (consR (varD 2 en) (consR (varD 3 en) (R.ok [])))).bind m_law_merged) (consR ((consR (varD 1 en) (consR (varD 2 en) (consR (varD 3 en) (R.ok [])))).bind m_law_due) (R.ok []))).bind (m_law_alike 12)).bind asB)).into en fun b => if b = true then ((cstD (.bool false) en).into en .rt) else (Out.nx en)).andThen fun en => (((orR (notR (((consR ((consR (varD 1 en) (consR (varD 1 en) (consR (varD 3 en) (R.ok [])))).bind m_law_merged) (consR (varD 3 en) (R.ok []))).bind (m_law_alike 12)).bind asB)) (notR (((consR ((consR (varD 1 en) (consR (varD 2 en) (consR (varD 1 en) (R.ok [])))).bind m_law_merged) (consR (varD 2 en) (R.ok []))).bind (m_law_alike 12)).bind asB))).into en fun b => if b = true then ((cstD (.bool false) en).into en .rt) else (Out.nx en)).andThen fun en => (((consR ((consR (varD 1 en) (consR (varD 2 en) (consR (varD 2 en) (R.ok [])))).bind m_law_merged) (consR (varD 2 en) (R.ok []))).bind (m_law_alike 12)).into en .rt)))))))
def m_law : List D → R Cell := runD 4 1 g_law
end K92
namespace K92
open DL L2
/-! ### the script's cells, the draws -/
def cell (ns : List Int) (k : Nat) : Int := ns.getD k 0
theorem cell_ok (ns : List Int) (k : Nat) : m_law_cell [.list (ns.map PySem.PyData.int), .int (k : Int)] = .ok (.d (.int (cell ns k))) := by
  unfold m_law_cell runD g_law_cell
  simp [startD, intB_int]
  by_cases h : k < ns.length
  · have e : (ns.map PySem.PyData.int)[k]? = some (.int (cell ns k)) := by
      rw [List.getElem?_map, List.getElem?_eq_getElem h]
      simp [cell, h]
    rw [if_pos h, idx_list e]
    rfl
  · rw [if_neg h]
    simp [cell, h]
/-- drawn numbers: one below each size -/
def Below (ds szs : List Int) : Prop := ds.length = szs.length ∧ ∀ (m : Nat) (v : Int), ds[m]? = some v → ∃ s, szs[m]? = some s ∧ 0 ≤ v ∧ v < s
theorem below_more {ds szs : List Int} {s v : Int} (hl : ∀ (m : Nat) (v : Int), ds[m]? = some v → ∃ s, szs[m]? = some s ∧ 0 ≤ v ∧ v < s) (hs : szs[ds.length]? = some s) (h0 : 0 ≤ v) (h1 : v < s) : ∀ (m : Nat) (u : Int), (ds ++ [v])[m]? = some u → ∃ s, szs[m]? = some s ∧ 0 ≤ u ∧ u < s := fun m u h => by
  by_cases hm : m < ds.length
  · rw [List.getElem?_append_left hm] at h
    exact hl m u h
  · rw [List.getElem?_append_right (by omega)] at h
    by_cases he : m = ds.length
    · subst he
      rw [Nat.sub_self] at h
      cases h
      exact ⟨s, hs, h0, h1⟩
    · rw [show m - ds.length = (m - ds.length - 1) + 1 by omega] at h
      simp at h
theorem get_map_int {szs : List Int} {i : Nat} {x : D} (h : (szs.map PySem.PyData.int)[i]? = some x) : ∃ s, szs[i]? = some s ∧ x = .int s := by
  rw [List.getElem?_map, Option.map_eq_some_iff] at h
  obtain ⟨s, h1, h2⟩ := h
  exact ⟨s, h1, h2.symm⟩
theorem run1 (ns : List Int) (k : Nat) (szs : List Int) (hk : k ≤ 1000) (hz : szs.length ≤ 1000) (hp : ∀ s ∈ szs, 0 < s ∧ s < 1073741824) : ∀ (c : Int) (x5 x6 x7 : Cell), ∃ (c' : Int) (ds : List Int) (y5 y6 y7 : Cell), forD (turnD (.nm 7) l0_law_draw) (szs.map PySem.PyData.int) [.d (.list (ns.map PySem.PyData.int)), .d (.int k), .d (.list (szs.map PySem.PyData.int)), .d (.int c), .own [], x5, x6, x7] = .nx [.d (.list (ns.map PySem.PyData.int)), .d (.int k), .d (.list (szs.map PySem.PyData.int)), .d (.int c'), .own (ds.map PySem.PyData.int), y5, y6, y7] ∧ Below ds szs := by
  intro c x5 x6 x7
  obtain ⟨e', h1, h2⟩ := forD_ind (g := turnD (.nm 7) l0_law_draw) (xs := szs.map PySem.PyData.int) (e := [.d (.list (ns.map PySem.PyData.int)), .d (.int k), .d (.list (szs.map PySem.PyData.int)), .d (.int c), .own [], x5, x6, x7]) (P := fun i e => ∃ (c' : Int) (ds : List Int) (y5 y6 y7 : Cell), e = [.d (.list (ns.map PySem.PyData.int)), .d (.int k), .d (.list (szs.map PySem.PyData.int)), .d (.int c'), .own (ds.map PySem.PyData.int), y5, y6, y7] ∧ ds.length = i ∧ ∀ (m : Nat) (v : Int), ds[m]? = some v → ∃ s, szs[m]? = some s ∧ 0 ≤ v ∧ v < s)
    ⟨c, [], x5, x6, x7, rfl, rfl, fun m v h => by simp at h⟩ (fun i x e hx hP => by
      obtain ⟨c', ds, y5, y6, y7, rfl, hl, hb⟩ := hP
      obtain ⟨s, hs, rfl⟩ := get_map_int hx
      obtain ⟨p1, p2⟩ := hp s (List.mem_of_getElem? hs)
      have hi : i < szs.length := (List.getElem?_eq_some_iff.mp hs).1
      refine ⟨[.d (.list (ns.map PySem.PyData.int)), .d (.int k), .d (.list (szs.map PySem.PyData.int)), .d (.int (c' / s)), .own ((ds ++ [c' % s]).map PySem.PyData.int), y5, y6, .d (.int s)], ?_, c' / s, ds ++ [c' % s], y5, y6, .d (.int s), rfl, by simp [hl], ?_⟩
      · have hlt : ds.length < 16777216 := by omega
        simp [l0_law_draw, modD_int p1, divD_int ⟨p1, p2⟩, setR, hlt]
      · exact below_more hb (by rw [hl]; exact hs) (Int.emod_nonneg _ (by omega)) (Int.emod_lt_of_pos _ p1))
  obtain ⟨c', ds, y5, y6, y7, rfl, hl, hb⟩ := h2
  exact ⟨c', ds, y5, y6, y7, h1, by rw [hl, List.length_map], hb⟩
theorem run2 (ns : List Int) (k : Nat) (szs : List Int) (hk : k ≤ 1000) (hz : szs.length ≤ 1000) (hp : ∀ s ∈ szs, 0 < s ∧ s < 1073741824) : ∀ (c m0 : Int) (x6 x7 : Cell), 0 ≤ m0 → m0 < 2147483647 → ∃ (ds : List Int) (y5 y6 : Cell), forD (turnD (.nm 6) l1_law_draw) (upFrom 0 szs.length) [.d (.list (ns.map PySem.PyData.int)), .d (.int k), .d (.list (szs.map PySem.PyData.int)), .d (.int c), .own [], .d (.int m0), x6, x7] = .nx [.d (.list (ns.map PySem.PyData.int)), .d (.int k), .d (.list (szs.map PySem.PyData.int)), .d (.int c), .own (ds.map PySem.PyData.int), y5, y6, x7] ∧ Below ds szs := by
  intro c m0 x6 x7 hm0 hm1
  obtain ⟨e', h1, h2⟩ := forD_ind (g := turnD (.nm 6) l1_law_draw) (xs := upFrom 0 szs.length) (e := [.d (.list (ns.map PySem.PyData.int)), .d (.int k), .d (.list (szs.map PySem.PyData.int)), .d (.int c), .own [], .d (.int m0), x6, x7]) (P := fun i e => ∃ (m : Int) (ds : List Int) (y6 : Cell), e = [.d (.list (ns.map PySem.PyData.int)), .d (.int k), .d (.list (szs.map PySem.PyData.int)), .d (.int c), .own (ds.map PySem.PyData.int), .d (.int m), y6, x7] ∧ 0 ≤ m ∧ m < 2147483647 ∧ ds.length = i ∧ ∀ (m : Nat) (v : Int), ds[m]? = some v → ∃ s, szs[m]? = some s ∧ 0 ≤ v ∧ v < s)
    ⟨m0, [], x6, rfl, hm0, hm1, rfl, fun m v h => by simp at h⟩ (fun i x e hx hP => by
      obtain ⟨m, ds, y6, rfl, q0, q1, hl, hb⟩ := hP
      obtain ⟨hi, rfl⟩ := up_get hx
      obtain ⟨s, hs⟩ : ∃ s, szs[i]? = some s := ⟨_, List.getElem?_eq_getElem hi⟩
      obtain ⟨p1, p2⟩ := hp s (List.mem_of_getElem? hs)
      have hlt : ds.length < 16777216 := by omega
      have es : (szs.map PySem.PyData.int)[i]? = some (.int s) := by rw [List.getElem?_map, hs]; rfl
      have ex := idx_list (xs := szs.map PySem.PyData.int) es
      refine ⟨[.d (.list (ns.map PySem.PyData.int)), .d (.int k), .d (.list (szs.map PySem.PyData.int)), .d (.int c), .own ((ds ++ [((((m * 48271 + 11 + (i : Int)) % 2147483647) * 69621 + 3) % 2147483647) / 7 % s]).map PySem.PyData.int), .d (.int ((((m * 48271 + 11 + (i : Int)) % 2147483647) * 69621 + 3) % 2147483647)), .d (.int (i : Int)), x7], ?_, _, _, _, rfl, Int.emod_nonneg _ (by decide), Int.emod_lt_of_pos _ (by decide), by simp [hl], ?_⟩
      · have b1 := Int.emod_nonneg (m * 48271 + 11 + (i : Int)) (show (2147483647 : Int) ≠ 0 by decide)
        have b2 := Int.emod_lt_of_pos (m * 48271 + 11 + (i : Int)) (show (0 : Int) < 2147483647 by decide)
        have hm1 := mulD_int (i := m) (j := 48271) (.inr (by decide))
        have hm2 := mulD_int (i := (m * 48271 + 11 + (i : Int)) % 2147483647) (j := 69621) (.inr (by decide))
        have hd1 := modD_int (i := m * 48271 + 11 + (i : Int)) (j := 2147483647) (by decide)
        have hd2 := modD_int (i := (m * 48271 + 11 + (i : Int)) % 2147483647 * 69621 + 3) (j := 2147483647) (by decide)
        have hd3 := divD_int (i := ((m * 48271 + 11 + (i : Int)) % 2147483647 * 69621 + 3) % 2147483647) (j := 7) (by decide)
        have hd4 := modD_int (i := ((m * 48271 + 11 + (i : Int)) % 2147483647 * 69621 + 3) % 2147483647 / 7) (j := s) p1
        simp [l1_law_draw, hm1, hm2, hd1, hd2, hd3, hd4, ex, setR, hlt]
      · exact below_more hb (by rw [hl]; exact hs) (Int.emod_nonneg _ (by omega)) (Int.emod_lt_of_pos _ p1))
  obtain ⟨m, ds, y6, rfl, _, _, hl, hb⟩ := h2
  have el : (upFrom 0 szs.length).length = szs.length := by simp [upFrom]
  exact ⟨ds, _, y6, h1, by rw [hl, el], hb⟩
theorem modP (i : Int) : ∃ m, modD (.d (.int i)) (.d (.int 2147483647)) = .ok (.d (.int m)) ∧ 0 ≤ m ∧ m < 2147483647 :=
  ⟨i % 2147483647, modD_int (by decide), Int.emod_nonneg _ (by decide), Int.emod_lt_of_pos _ (by decide)⟩
theorem draw_ok (ns : List Int) (k : Nat) (szs : List Int) (hk : k ≤ 1000) (hz : szs.length ≤ 1000) (hp : ∀ s ∈ szs, 0 < s ∧ s < 1073741824) : ∃ ds : List Int, m_law_draw [.list (ns.map PySem.PyData.int), .int (k : Int), .list (szs.map PySem.PyData.int)] = .ok (.own (ds.map PySem.PyData.int)) ∧ Below ds szs := by
  unfold m_law_draw runD g_law_draw
  have run1 := run1 ns k szs hk hz hp
  have run2 := run2 ns k szs hk hz hp
  have pw : powD (.d (.int 10)) (.d (.int 18)) = .ok (.d (.int (10 ^ 18))) := rfl
  have l0 : lstR (.ok []) = .ok (.own []) := lstR_ok (by decide)
  have m1 : mulD (.d (.int 31)) (.d (.int (k : Int))) = .ok (.d (.int (31 * k))) := mulD_int (.inl (by decide))
  have r1 : rng1D (.d (.int (szs.length : Int))) = .ok (upFrom 0 szs.length) := rng1_nat (by omega)
  simp [startD, cell_ok, pw, l0, m1, r1, setR]
  split
  · generalize (-cell ns k) = c
    clear pw l0
    generalize (1000000000000000000 : Int) = B
    by_cases hc : B ≤ c
    · obtain ⟨c', ds, y5, y6, y7, h1, h2⟩ := run1 (c - B) .un .un .un
      refine ⟨ds, ?_, h2⟩
      simp -implicitDefEqProofs [hc, h1, setR]
    · obtain ⟨m0, hd, q1, q2⟩ := modP (c + 1 + 31 * k)
      obtain ⟨ds, y5, y6, h1, h2⟩ := run2 c m0 .un .un q1 q2
      refine ⟨ds, ?_, h2⟩
      simp -implicitDefEqProofs [hc, h1, setR, m1, hd, r1]
  · generalize (cell ns k) = c
    clear pw l0
    generalize (1000000000000000000 : Int) = B
    by_cases hc : B ≤ c
    · obtain ⟨c', ds, y5, y6, y7, h1, h2⟩ := run1 (c - B) .un .un .un
      refine ⟨ds, ?_, h2⟩
      simp -implicitDefEqProofs [hc, h1, setR]
    · obtain ⟨m0, hd, q1, q2⟩ := modP (c + 1 + 31 * k)
      obtain ⟨ds, y5, y6, h1, h2⟩ := run2 c m0 .un .un q1 q2
      refine ⟨ds, ?_, h2⟩
      simp -implicitDefEqProofs [hc, h1, setR, m1, hd, r1]
end K92
namespace K92
open DL L2
/-! ### the pool and the trees made of its rows -/
def pool : List D := match m_law_pool [] with | .ok (.own xs) => xs | _ => []
def item (n : Nat) : D := pool.getD n .none
theorem pool_ok : m_law_pool [] = .ok (.own pool) := by rfl
theorem pool_len : pool.length = 8 := by rfl
theorem item_eqv : ∀ i < 8, ∀ j < 8, PySem.PyData.eqv (item i) (item j) = decide (i = j) := by decide +kernel
theorem item_shaped : ∀ i < 8, PySem.SeqAt.shaped (item i) = true := by decide +kernel
theorem pool_get {n : Nat} (h : n < 8) : pool[n]? = some (item n) := by
  unfold item
  rw [List.getD_eq_getElem?_getD, List.getElem?_eq_getElem (by rw [pool_len]; exact h)]
  rfl
abbrev Good (ts : List Nat) : Prop := ∀ t ∈ ts, t < 8
def rowsOf (ts : List Nat) : List D := ts.map item
theorem rows_len {ts : List Nat} : (rowsOf ts).length = ts.length := List.length_map _
theorem rows_to {ts : List Nat} {b : Nat} : cutD (rowsOf ts) none (some (b : Int)) = rowsOf (ts.take b) := by
  rw [cut_to, rowsOf, rowsOf, List.map_take]
theorem rows_from {ts : List Nat} {a : Nat} : cutD (rowsOf ts) (some (a : Int)) none = rowsOf (ts.drop a) := by
  rw [cut_from, rowsOf, rowsOf, List.map_drop]
theorem rows_cut {ts : List Nat} {a b : Nat} : cutD (rowsOf ts) (some (a : Int)) (some (b : Int)) = rowsOf ((ts.drop a).take (b - a)) := by
  rw [cut_nat, rowsOf, rowsOf, List.map_take, List.map_drop]
theorem rows_add {us vs : List Nat} (h : us.length + vs.length ≤ 16777216) : addD (.own (rowsOf us)) (.own (rowsOf vs)) = .ok (.own (rowsOf (us ++ vs))) := by
  rw [addD_own (by rw [rows_len, rows_len]; exact h), rowsOf, rowsOf, rowsOf, List.map_append]
theorem rows_tup {us vs : List Nat} (h : us.length + vs.length ≤ 16777216) : addD (.d (.tuple (rowsOf us))) (.d (.tuple (rowsOf vs))) = .ok (.d (.tuple (rowsOf (us ++ vs)))) := by
  rw [addD_tup (by rw [rows_len, rows_len]; exact h), rowsOf, rowsOf, rowsOf, List.map_append]
theorem rows_one {t : Nat} : [item t] = rowsOf [t] := rfl
theorem rows_get {ts : List Nat} {i t : Nat} (h : ts[i]? = some t) : (rowsOf ts)[i]? = some (item t) := by
  rw [rowsOf, List.getElem?_map, h]; rfl
theorem draw_any (ns : List Int) (k : Int) (szs : List Int) (h0 : 0 ≤ k) (h1 : k ≤ 1000) (hz : szs.length ≤ 1000) (hp : ∀ s ∈ szs, 0 < s ∧ s < 1073741824) : ∃ ds : List Int, m_law_draw [.list (ns.map PySem.PyData.int), .int k, .list (szs.map PySem.PyData.int)] = .ok (.own (ds.map PySem.PyData.int)) ∧ Below ds szs := by
  obtain ⟨n, rfl⟩ := Int.eq_ofNat_of_zero_le h0
  exact draw_ok ns n szs (by omega) hz hp
theorem below_get {ds szs : List Int} (h : Below ds szs) {i : Nat} {s : Int} (hi : szs[i]? = some s) : ∃ v : Nat, ds[i]? = some (v : Int) ∧ (v : Int) < s := by
  have h1 : i < ds.length := by rw [h.1]; exact (List.getElem?_eq_some_iff.mp hi).1
  obtain ⟨s', a, b, c⟩ := h.2 i ds[i] (List.getElem?_eq_getElem h1)
  rw [hi] at a
  cases a
  obtain ⟨v, hv⟩ := Int.eq_ofNat_of_zero_le b
  exact ⟨v, by rw [List.getElem?_eq_getElem h1, hv], by omega⟩
theorem draw_get {ds : List Int} {i : Nat} {v : Int} (h : ds[i]? = some v) : idxD (.own (ds.map PySem.PyData.int)) (.d (.int (i : Int))) = .ok (.d (.int v)) := idx_own (by rw [List.getElem?_map, h]; rfl)
theorem some_tree_ok (ns : List Int) : ∃ ts : List Nat, m_law_some_tree [.list (ns.map PySem.PyData.int), .int 0, .int 8] = .ok (.d (.tuple (rowsOf ts))) ∧ Good ts ∧ ts.length ≤ 8 := by
  obtain ⟨ds, hd, hb⟩ := draw_any ns 0 (List.replicate 10 8) (by decide) (by decide) (by decide) (by intro s hs; rw [List.eq_of_mem_replicate hs]; decide)
  obtain ⟨n, hn, ln⟩ := below_get hb (i := 0) (s := 8) rfl
  have i0 : idxD (.own (ds.map PySem.PyData.int)) (.d (.int 0)) = .ok (.d (.int (n : Int))) := draw_get (i := 0) hn
  have e8 : mulD (.own [.int 8]) (.d (.int 10)) = .ok (.own ((List.replicate 10 (8 : Int)).map PySem.PyData.int)) := by
    rw [show (10 : Int) = ((10 : Nat) : Int) from rfl, mulD_one (by decide), List.map_replicate]
  have l8 : lstR (.ok [PySem.PyData.int 8]) = .ok (.own [.int 8]) := lstR_ok (by decide)
  have r1 : rng1D (.d (.int (n : Int))) = .ok (upFrom 0 n) := rng1_nat (by omega)
  have key := lcL_some (em := item) (P := fun t => t < 8) (vs := [5]) (i := 5) (f := fun en => ((getC 3 en).bind fun x => (((getC 4 en).bind fun x => ((cstD (.int 1) en).bind fun x => (getC 5 en).bind fun y => addD x y).bind fun y => idxD x y).bind fun x => (getC 2 en).bind fun y => modD x y).bind fun y => idxD x y).bind Cell.val) (xs := upFrom 0 n)
    (e := [.d (.list (ns.map PySem.PyData.int)), .d (.int 0), .d (.int 8), .own pool, .own (ds.map PySem.PyData.int), .un]) (by rw [up_len]; omega) (fun x hx => by
      obtain ⟨i, hi⟩ := List.getElem?_of_mem hx
      obtain ⟨li, rfl⟩ := upz_get hi
      obtain ⟨v, hv, lv⟩ := below_get hb (i := 1 + i) (s := 8) (by rw [List.getElem?_replicate, if_pos (by omega)])
      refine ⟨v, by omega, ?_⟩
      have a1 := draw_get hv
      have a2 : idxD (.own pool) (.d (.int (v : Int))) = .ok (.d (item v)) := idx_own (pool_get (by omega))
      have a3 : modD (.d (.int (v : Int))) (.d (.int 8)) = .ok (.d (.int v)) := by rw [modD_int (by decide), Int.emod_eq_of_lt (by omega) (by omega)]
      rw [show ((1 + i : Nat) : Int) = 1 + (i : Int) by omega] at a1
      simp [a1, a2, a3])
  obtain ⟨ts, h1, h2, h3⟩ := key
  refine ⟨ts, ?_, h2, by rw [h1, up_len]; omega⟩
  unfold m_law_some_tree runD g_law_some_tree
  simp at h3 hd
  simp -implicitDefEqProofs [startD, pool_ok, setR, l8, e8, hd, i0, r1, h3, rowsOf]

def ins (ws : List Nat) (a v : Nat) : List Nat := ws.take a ++ [v] ++ ws.drop a
def del (ws : List Nat) (a : Nat) : List Nat := ws.take a ++ ws.drop (a + 1)
theorem ins_good {ws : List Nat} {a v : Nat} (h : Good ws) (hv : v < 8) : Good (ins ws a v) := fun t ht => by
  rcases List.mem_append.mp ht with ht | ht
  · rcases List.mem_append.mp ht with ht | ht
    · exact h t (List.mem_of_mem_take ht)
    · rw [List.mem_singleton.mp ht]; exact hv
  · exact h t (List.mem_of_mem_drop ht)
theorem del_good {ws : List Nat} {a : Nat} (h : Good ws) : Good (del ws a) := fun t ht => by
  rcases List.mem_append.mp ht with ht | ht
  · exact h t (List.mem_of_mem_take ht)
  · exact h t (List.mem_of_mem_drop ht)
theorem ins_len {ws : List Nat} {a v : Nat} : (ins ws a v).length = ws.length + 1 := by
  unfold ins; simp; omega
theorem del_len {ws : List Nat} {a : Nat} : (del ws a).length ≤ ws.length := by
  unfold del; simp; omega
theorem item_near (ns : List Int) (k : Int) (h0 : 0 ≤ k) (h1 : k ≤ 900) (ts : List Nat) (hg : Good ts) (hl : ts.length ≤ 1000) : ∃ us : List Nat, m_law_near_tree [.list (ns.map PySem.PyData.int), .int k, .tuple (rowsOf ts)] = .ok (.d (.tuple (rowsOf us))) ∧ Good us ∧ us.length ≤ ts.length + 3 := by
  obtain ⟨d1, hd, hb⟩ := draw_any ns k [4] h0 (by omega) (by decide) (by intro s hs; rw [List.mem_singleton.mp hs]; decide)
  obtain ⟨n, hn, ln⟩ := below_get hb (i := 0) (s := 4) rfl
  have i0 : idxD (.own (d1.map PySem.PyData.int)) (.d (.int 0)) = .ok (.d (.int (n : Int))) := draw_get (i := 0) hn
  have l4 : lstR (.ok [PySem.PyData.int 4]) = .ok (.own [.int 4]) := lstR_ok (by decide)
  have r1 : rng1D (.d (.int (n : Int))) = .ok (upFrom 0 n) := rng1_nat (by omega)
  obtain ⟨e', f1, f2⟩ := forD_ind (g := turnD (.nm 5) l0_law_near_tree) (xs := upFrom 0 n) (e := [.d (.list (ns.map PySem.PyData.int)), .d (.int k), .d (.tuple (rowsOf ts)), .own pool, .own (rowsOf ts), .un, .un, .un])
    (P := fun i e => ∃ (us : List Nat) (x5 x6 x7 : Cell), e = [.d (.list (ns.map PySem.PyData.int)), .d (.int k), .d (.tuple (rowsOf ts)), .own pool, .own (rowsOf us), x5, x6, x7] ∧ Good us ∧ us.length ≤ ts.length + i)
    ⟨ts, .un, .un, .un, rfl, hg, by omega⟩ (fun i x e hx hP => by
      obtain ⟨us, x5, x6, x7, rfl, gu, lu⟩ := hP
      obtain ⟨li, rfl⟩ := upz_get hx
      obtain ⟨ds, hd, hb⟩ := draw_any ns (k + 1 + i) [3, 8, 8] (by omega) (by omega) (by decide) (by intro s hs; simp at hs; omega)
      obtain ⟨v0, hv0, lv0⟩ := below_get hb (i := 0) (s := 3) rfl
      obtain ⟨v1, hv1, lv1⟩ := below_get hb (i := 1) (s := 8) rfl
      obtain ⟨v2, hv2, lv2⟩ := below_get hb (i := 2) (s := 8) rfl
      have j0 : idxD (.own (ds.map PySem.PyData.int)) (.d (.int 0)) = .ok (.d (.int (v0 : Int))) := draw_get (i := 0) hv0
      have j1 : idxD (.own (ds.map PySem.PyData.int)) (.d (.int 1)) = .ok (.d (.int (v1 : Int))) := draw_get (i := 1) hv1
      have j2 : idxD (.own (ds.map PySem.PyData.int)) (.d (.int 2)) = .ok (.d (.int (v2 : Int))) := draw_get (i := 2) hv2
      have a2 : idxD (.own pool) (.d (.int (v2 : Int))) = .ok (.d (item v2)) := idx_own (pool_get (by omega))
      have l3 : lstR (.ok [PySem.PyData.int 3, PySem.PyData.int 8, PySem.PyData.int 8]) = .ok (.own [.int 3, .int 8, .int 8]) := lstR_ok (by simp)
      have l1 : lstR (.ok [item v2]) = .ok (.own [item v2]) := lstR_ok (by simp)
      have a3 : modD (.d (.int (v1 : Int))) (.d (.int ((us.length : Int) + 1))) = .ok (.d (.int ((v1 % (us.length + 1) : Nat) : Int))) := by rw [modD_int (by omega)]; rfl
      generalize ha : v1 % (us.length + 1) = a at a3
      have la : a ≤ us.length := by have := Nat.mod_lt v1 (show 0 < us.length + 1 by omega); omega
      simp at hd
      have l1' : lstR (.ok [item v2]) = .ok (.own (rowsOf [v2])) := l1
      have c2 : ∀ ws : List Nat, cutD (rowsOf ws) (some ((a : Int) + 1)) none = rowsOf (ws.drop (a + 1)) := fun ws => rows_from (a := a + 1)
      have ad1 : addD (.own (rowsOf (us.take a))) (.own (rowsOf (us.drop (a + 1)))) = .ok (.own (rowsOf (del us a))) := rows_add (by simp; omega)
      have ad2 : ∀ ws : List Nat, ws.length ≤ 5000 → addD (.own (rowsOf (ws.take a))) (.own (rowsOf [v2])) = .ok (.own (rowsOf (ws.take a ++ [v2]))) := fun ws hw => rows_add (by simp; omega)
      have ad3 : ∀ ws : List Nat, ws.length ≤ 5000 → addD (.own (rowsOf (ws.take a ++ [v2]))) (.own (rowsOf (ws.drop a))) = .ok (.own (rowsOf (ins ws a v2))) := fun ws hw => rows_add (by simp; omega)
      have q1 := ad2 us (by omega)
      have q2 := ad3 us (by omega)
      have q3 := ad2 (del us a) (Nat.le_trans del_len (by omega))
      have q4 := ad3 (del us a) (Nat.le_trans del_len (by omega))
      clear ad2 ad3
      obtain ⟨w0, hw0⟩ : ∃ w : Int, w = (v0 : Int) := ⟨_, rfl⟩
      have p0 : 0 ≤ w0 := by omega
      rw [← hw0] at j0 lv0
      clear hw0 hv0
      have go : ∃ ws : List Nat, Good ws ∧ ws.length ≤ us.length + 1 ∧ turnD (.nm 5) l0_law_near_tree (.int (i : Int)) [.d (.list (ns.map PySem.PyData.int)), .d (.int k), .d (.tuple (rowsOf ts)), .own pool, .own (rowsOf us), x5, x6, x7] = Out.nx [.d (.list (ns.map PySem.PyData.int)), .d (.int k), .d (.tuple (rowsOf ts)), .own pool, .own (rowsOf ws), .d (.int (i : Int)), .own (ds.map PySem.PyData.int), .d (.int (a : Int))] := by
        by_cases b0 : w0 < 2
        · by_cases b1 : (a : Int) < us.length
          · by_cases b2 : 0 < w0
            · exact ⟨ins (del us a) a v2, ins_good (del_good gu) (by omega), by rw [ins_len]; have := @del_len us a; omega, by simp -implicitDefEqProofs [l0_law_near_tree, setR, l3, hd, j0, j1, a3, rows_len, b0, b1, b2, rows_to, rows_from, c2, ad1, j2, a2, l1', q1, q2, q3, q4]⟩
            · exact ⟨del us a, del_good gu, by have := @del_len us a; omega, by simp -implicitDefEqProofs [l0_law_near_tree, setR, l3, hd, j0, j1, a3, rows_len, b0, b1, b2, rows_to, rows_from, c2, ad1, j2, a2, l1', q1, q2, q3, q4]⟩
          · by_cases b2 : 0 < w0
            · exact ⟨ins us a v2, ins_good gu (by omega), by rw [ins_len]; omega, by simp -implicitDefEqProofs [l0_law_near_tree, setR, l3, hd, j0, j1, a3, rows_len, b0, b1, b2, rows_to, rows_from, c2, ad1, j2, a2, l1', q1, q2, q3, q4]⟩
            · exact ⟨us, gu, by omega, by simp -implicitDefEqProofs [l0_law_near_tree, setR, l3, hd, j0, j1, a3, rows_len, b0, b1, b2, rows_to, rows_from, c2, ad1, j2, a2, l1', q1, q2, q3, q4]⟩
        · have b2 : 0 < w0 := by omega
          exact ⟨ins us a v2, ins_good gu (by omega), by rw [ins_len]; omega, by simp -implicitDefEqProofs [l0_law_near_tree, setR, l3, hd, j0, j1, a3, rows_len, b0, b2, rows_to, rows_from, c2, ad1, j2, a2, l1', q1, q2, q3, q4]⟩
      obtain ⟨ws, gw, lw, hw⟩ := go
      exact ⟨_, hw, ws, _, _, _, rfl, gw, by omega⟩)
  rw [up_len] at f2
  obtain ⟨us, x5, x6, x7, rfl, gu, lu⟩ := f2
  refine ⟨us, ?_, gu, by omega⟩
  unfold m_law_near_tree runD g_law_near_tree
  simp at hd
  simp -implicitDefEqProofs [startD, pool_ok, setR, l4, hd, i0, r1, f1]
end K92
namespace K92
open DL L2
/-! ### the tables -/
theorem canLay_rows {ts : List Nat} (h : Good ts) : PySem.PyData.canLayAll0 (rowsOf ts) = true ∧ PySem.PyData.depthAll (rowsOf ts) ≤ 63 := by
  induction ts with
  | nil => exact ⟨rfl, by decide⟩
  | cons t ts ih =>
    obtain ⟨h1, h2⟩ := ih fun x hx => h x (List.mem_cons_of_mem _ hx)
    have ht := h t List.mem_cons_self
    have k : ∀ i < 8, (item i).canLay0 = true ∧ (item i).depth ≤ 20 := by decide +kernel
    obtain ⟨k1, k2⟩ := k t ht
    refine ⟨?_, ?_⟩
    · show ((item t).canLay0 && PySem.PyData.canLayAll0 (rowsOf ts)) = true
      rw [k1, h1]; rfl
    · show max (item t).depth (PySem.PyData.depthAll (rowsOf ts)) ≤ 63
      omega
theorem tup_shaped {ts : List Nat} (h : Good ts) : PySem.SeqAt.shaped (.tuple (rowsOf ts)) = true := by
  obtain ⟨h1, h2⟩ := canLay_rows h
  unfold PySem.SeqAt.shaped
  rw [show (PySem.PyData.tuple (rowsOf ts)).canLay0 = PySem.PyData.canLayAll0 (rowsOf ts) from rfl, h1]
  have : (PySem.PyData.tuple (rowsOf ts)).depth = PySem.PyData.depthAll (rowsOf ts) + 1 := rfl
  simp; omega
theorem rows_eqv {ts us : List Nat} (h : Good ts) (h' : Good us) : PySem.PyData.eqvAll (rowsOf ts) (rowsOf us) = decide (ts = us) := by
  induction ts generalizing us with
  | nil => cases us with
    | nil => rfl
    | cons u us => rfl
  | cons t ts ih => cases us with
    | nil => rfl
    | cons u us =>
      show (PySem.PyData.eqv (item t) (item u) && PySem.PyData.eqvAll (rowsOf ts) (rowsOf us)) = _
      rw [ih (fun x hx => h x (List.mem_cons_of_mem _ hx)) (fun x hx => h' x (List.mem_cons_of_mem _ hx)), item_eqv t (h t List.mem_cons_self) u (h' u List.mem_cons_self)]
      simp
theorem tup_eq {ts us : List Nat} (h : Good ts) (h' : Good us) : eqD (.d (.tuple (rowsOf ts))) (.d (.tuple (rowsOf us))) = .ok (.d (.bool (decide (ts = us)))) := by
  rw [eqD_ok (tup_shaped h) (tup_shaped h')]
  show R.ok (Cell.d (.bool (PySem.PyData.eqvAll (rowsOf ts) (rowsOf us)))) = _
  rw [rows_eqv h h']
theorem item_eq {t u : Nat} (h : t < 8) (h' : u < 8) : eqD (.d (item t)) (.d (item u)) = .ok (.d (.bool (decide (t = u)))) := by
  rw [eqD_ok (item_shaped t h) (item_shaped u h'), item_eqv t h u h']
theorem item_ne {t u : Nat} (h : t < 8) (h' : u < 8) : neD (.d (item t)) (.d (item u)) = .ok (.d (.bool (!decide (t = u)))) := by
  rw [neD_ok (item_shaped t h) (item_shaped u h'), item_eqv t h u h']
def nums (r : List Nat) : List D := r.map fun n : Nat => PySem.PyData.int (n : Int)
def grid (tab : List (List Nat)) : List (List D) := tab.map nums
def at2 (tab : List (List Nat)) (i j : Nat) : Nat := (tab.getD i []).getD j 0
def Shape (n m : Nat) (tab : List (List Nat)) : Prop := tab.length = n + 1 ∧ ∀ i, i ≤ n → (tab.getD i []).length = m + 1
def upd (ts us : List Nat) (i j : Nat) (tab : List (List Nat)) : List (List Nat) :=
  tab.set i ((tab.getD i []).set j (if ts.getD i 0 = us.getD j 0 then at2 tab (i + 1) (j + 1) + 1 else if at2 tab (i + 1) j < at2 tab i (j + 1) then at2 tab i (j + 1) else at2 tab (i + 1) j))
theorem grid_row {n m i : Nat} {tab : List (List Nat)} (h : Shape n m tab) (hi : i ≤ n) : (grid tab)[i]? = some (nums (tab.getD i [])) := by
  unfold grid
  rw [List.getElem?_map, List.getD_eq_getElem?_getD, List.getElem?_eq_getElem (by rw [h.1]; omega)]
  rfl
theorem grid_at {n m i j : Nat} {tab : List (List Nat)} (h : Shape n m tab) (hi : i ≤ n) (hj : j ≤ m) : (nums (tab.getD i []))[j]? = some (.int (at2 tab i j : Nat)) := by
  unfold nums
  have := h.2 i hi
  unfold at2
  rw [List.getElem?_map, List.getD_eq_getElem?_getD (l := tab.getD i []), List.getElem?_eq_getElem (by omega)]
  rfl
theorem upd_shape {n m i j : Nat} {ts us : List Nat} {tab : List (List Nat)} (h : Shape n m tab) (hi : i < n) : Shape n m (upd ts us i j tab) := by
  refine ⟨by unfold upd; rw [List.length_set]; exact h.1, fun k hk => ?_⟩
  unfold upd
  rw [List.getD_eq_getElem?_getD, List.getElem?_set]
  by_cases e : i = k
  · subst e
    have := h.1
    rw [if_pos rfl, if_pos (by omega)]
    show ((tab.getD i []).set j _).length = _
    rw [List.length_set]
    exact h.2 i hk
  · rw [if_neg e, ← List.getD_eq_getElem?_getD]
    exact h.2 k hk
theorem grid_set {n m i j v : Nat} {tab : List (List Nat)} (h : Shape n m tab) (hi : i < n) : (grid tab).set i ((nums (tab.getD i [])).set j (.int (v : Int))) = grid (tab.set i ((tab.getD i []).set j v)) := by
  unfold grid nums
  rw [List.map_set, List.map_set]
theorem idx_grid {n m i j : Nat} {tab : List (List Nat)} (h : Shape n m tab) (hi : i ≤ n) : idxD (.own2 (grid tab)) (.d (.int (i : Int))) = .ok (.own (nums (tab.getD i []))) := idx_own2 (grid_row h hi)
theorem idx_nums {n m i j : Nat} {tab : List (List Nat)} (h : Shape n m tab) (hi : i ≤ n) (hj : j ≤ m) : idxD (.own (nums (tab.getD i []))) (.d (.int (j : Int))) = .ok (.d (.int (at2 tab i j : Nat))) := idx_own (grid_at h hi hj)
theorem idx_rows {ts : List Nat} {i : Nat} (hi : i < ts.length) : idxD (.d (.tuple (rowsOf ts))) (.d (.int (i : Int))) = .ok (.d (item (ts.getD i 0))) := by
  refine idx_tuple (rows_get ?_)
  rw [List.getD_eq_getElem?_getD, List.getElem?_eq_getElem hi]
  rfl
theorem good_at {ts : List Nat} {i : Nat} (h : Good ts) (hi : i < ts.length) : ts.getD i 0 < 8 := by
  rw [List.getD_eq_getElem?_getD, List.getElem?_eq_getElem hi]
  exact h _ (List.getElem_mem hi)
theorem step_grid {ts us : List Nat} {tab : List (List Nat)} {i j : Nat} {x4 : Cell} {rest : Env} (gt : Good ts) (gu : Good us) (h : Shape ts.length us.length tab) (hi : i < ts.length) (hj : j < us.length) :
    turnD (.nm 4) l0_common_lengths (.int (j : Int)) (.d (.tuple (rowsOf ts)) :: .d (.tuple (rowsOf us)) :: .own2 (grid tab) :: .d (.int (i : Int)) :: x4 :: rest)
      = .nx (.d (.tuple (rowsOf ts)) :: .d (.tuple (rowsOf us)) :: .own2 (grid (upd ts us i j tab)) :: .d (.int (i : Int)) :: .d (.int (j : Int)) :: rest) := by
  have i1 := idx_rows hi
  have i2 := idx_rows hj
  have e1 := item_eq (good_at gt hi) (good_at gu hj)
  have g1 := idx_grid (j := 0) h (i := i) (by omega)
  have g2 := idx_grid (j := 0) h (i := i + 1) (by omega)
  have n1 := idx_nums h (i := i + 1) (j := j + 1) (by omega) (by omega)
  have n2 := idx_nums h (i := i + 1) (j := j) (by omega) (by omega)
  have n3 := idx_nums h (i := i) (j := j + 1) (by omega) (by omega)
  have x1 : L2.ixN (grid tab).length (i : Int) = some i := ix_nat (by unfold grid; rw [List.length_map, h.1]; omega)
  have x2 : ∀ d : D, setAt (nums (tab.getD i [])) (j : Int) d = some ((nums (tab.getD i [])).set j d) := fun d => setAt_nat (by unfold nums; rw [List.length_map, h.2 i (by omega)]; omega)
  have x3 : (grid tab).getD i [] = nums (tab.getD i []) := by rw [List.getD_eq_getElem?_getD, grid_row h (by omega)]; rfl
  have gs := fun v => grid_set (j := j) (v := v) h hi
  have mx : maxD (.d (.int ((at2 tab (i + 1) j : Nat) : Int))) (.d (.int ((at2 tab i (j + 1) : Nat) : Int))) = .ok (.d (.int ((if at2 tab (i + 1) j < at2 tab i (j + 1) then at2 tab i (j + 1) else at2 tab (i + 1) j : Nat) : Int))) := by
    rw [max_int]
    by_cases q : at2 tab (i + 1) j < at2 tab i (j + 1)
    · rw [if_pos q, if_pos (by omega)]
    · rw [if_neg q, if_neg (by omega)]
  unfold upd
  generalize ts.getD i 0 = t at *
  generalize us.getD j 0 = u at *
  generalize hr : tab.getD i [] = r at *
  generalize hr2 : tab.getD (i + 1) [] = r2 at *
  generalize (if at2 tab (i + 1) j < at2 tab i (j + 1) then at2 tab i (j + 1) else at2 tab (i + 1) j) = mv at *
  generalize at2 tab (i + 1) (j + 1) = v1 at *
  generalize at2 tab (i + 1) j = v2 at *
  generalize at2 tab i (j + 1) = v3 at *
  rw [show ((i + 1 : Nat) : Int) = (i : Int) + 1 from rfl] at g2
  rw [show ((j + 1 : Nat) : Int) = (j : Int) + 1 from rfl] at n1 n3
  have gs1 := gs (v1 + 1)
  have gs2 := gs mv
  rw [show ((v1 + 1 : Nat) : Int) = (v1 : Int) + 1 from rfl] at gs1
  by_cases q : t = u
  · rw [if_pos q]
    subst q
    simp -implicitDefEqProofs [-List.getD_eq_getElem?_getD, l0_common_lengths, i1, i2, e1, g1, g2, n1, n2, n3, x1, x2, x3, ← gs1]
  · rw [if_neg q]
    simp -implicitDefEqProofs [-List.getD_eq_getElem?_getD, l0_common_lengths, i1, i2, e1, q, g1, g2, n1, n2, n3, x1, x2, x3, mx, ← gs2]
def downs (m : Nat) : List Nat := (List.range m).map fun k => m - 1 - k
theorem downs_lt {m k : Nat} (h : k ∈ downs m) : k < m := by
  unfold downs at h
  obtain ⟨i, h1, rfl⟩ := List.mem_map.mp h
  have := List.mem_range.mp h1
  omega
theorem step_downs (m : Nat) : stepFrom ((m : Int) - 1) (-1) m = (downs m).map fun k : Nat => PySem.PyData.int (k : Int) := by
  unfold stepFrom downs
  rw [List.map_map]
  refine List.map_congr_left fun k hk => ?_
  have := List.mem_range.mp hk
  show PySem.PyData.int ((m : Int) - 1 + (k : Nat) * (-1)) = PySem.PyData.int ((m - 1 - k : Nat) : Int)
  congr 1
  omega
theorem forD_nx {g : D → Env → Out} {x : D} {xs : List D} {e e' : Env} (h : g x e = .nx e') : forD g (x :: xs) e = forD g xs e' := by
  show (match g x e with | .nx e' => forD g xs e' | .ct e' => forD g xs e' | .bk e' => .nx e' | o => o) = _
  rw [h]
def rowUp (ts us : List Nat) (i : Nat) (js : List Nat) (tab : List (List Nat)) : List (List Nat) := js.foldl (fun t j => upd ts us i j t) tab
theorem row_grid {ts us : List Nat} {i : Nat} {rest : Env} (gt : Good ts) (gu : Good us) (hi : i < ts.length) : ∀ (js : List Nat) (tab : List (List Nat)) (x4 : Cell), (∀ j ∈ js, j < us.length) → Shape ts.length us.length tab →
    Shape ts.length us.length (rowUp ts us i js tab) ∧ ∃ y4, forD (turnD (.nm 4) l0_common_lengths) (js.map fun k : Nat => PySem.PyData.int (k : Int)) (.d (.tuple (rowsOf ts)) :: .d (.tuple (rowsOf us)) :: .own2 (grid tab) :: .d (.int (i : Int)) :: x4 :: rest)
      = .nx (.d (.tuple (rowsOf ts)) :: .d (.tuple (rowsOf us)) :: .own2 (grid (rowUp ts us i js tab)) :: .d (.int (i : Int)) :: y4 :: rest)
  | [], tab, x4, _, h => ⟨h, x4, rfl⟩
  | j :: js, tab, x4, hj, h => by
    obtain ⟨h1, y4, h2⟩ := row_grid (rest := rest) gt gu hi js (upd ts us i j tab) (.d (.int (j : Int))) (fun k hk => hj k (List.mem_cons_of_mem _ hk)) (upd_shape h hi)
    exact ⟨h1, y4, (forD_nx (step_grid gt gu h hi (hj j List.mem_cons_self))).trans h2⟩
def tabUp (ts us : List Nat) (is : List Nat) (tab : List (List Nat)) : List (List Nat) := is.foldl (fun t i => rowUp ts us i (downs us.length) t) tab
theorem turn_grid {ts us : List Nat} {i : Nat} {rest : Env} {x3 x4 : Cell} {tab : List (List Nat)} (hu : us.length ≤ 1000000) (gt : Good ts) (gu : Good us) (hi : i < ts.length) (h : Shape ts.length us.length tab) :
    ∃ y4, turnD (.nm 3) l1_common_lengths (.int (i : Int)) (.d (.tuple (rowsOf ts)) :: .d (.tuple (rowsOf us)) :: .own2 (grid tab) :: x3 :: x4 :: rest)
      = .nx (.d (.tuple (rowsOf ts)) :: .d (.tuple (rowsOf us)) :: .own2 (grid (rowUp ts us i (downs us.length) tab)) :: .d (.int (i : Int)) :: y4 :: rest) := by
  obtain ⟨_, y4, h2⟩ := row_grid (rest := rest) gt gu hi (downs us.length) tab x4 (fun j hj => downs_lt hj) h
  refine ⟨y4, ?_⟩
  have r1 := rev_nat (n := us.length) (by omega)
  rw [step_downs] at r1
  simp -implicitDefEqProofs [l1_common_lengths, rows_len, r1, h2]
theorem turn_grid' {ts us : List Nat} {i : Nat} {rest : Env} {x3 x4 : Cell} {tab : List (List Nat)} (hu : us.length ≤ 1000000) (gt : Good ts) (gu : Good us) (hi : i < ts.length) (h : Shape ts.length us.length tab) :
    ∃ y4, turnD (.nm 3) l1_law_table_of (.int (i : Int)) (.d (.tuple (rowsOf ts)) :: .d (.tuple (rowsOf us)) :: .own2 (grid tab) :: x3 :: x4 :: rest)
      = .nx (.d (.tuple (rowsOf ts)) :: .d (.tuple (rowsOf us)) :: .own2 (grid (rowUp ts us i (downs us.length) tab)) :: .d (.int (i : Int)) :: y4 :: rest) := by
  obtain ⟨_, y4, h2⟩ := row_grid (rest := rest) gt gu hi (downs us.length) tab x4 (fun j hj => downs_lt hj) h
  refine ⟨y4, ?_⟩
  have r1 := down_nat (n := us.length) (by omega)
  rw [step_downs] at r1
  have e0 : l0_law_table_of = l0_common_lengths := rfl
  simp -implicitDefEqProofs [l1_law_table_of, rows_len, e0, r1, h2]
theorem tab_grid {ts us : List Nat} {rest : Env} {g : D → Env → Out} (hu : us.length ≤ 1000000) (gt : Good ts) (gu : Good us)
    (hg : ∀ (i : Nat) (x3 x4 : Cell) (tab : List (List Nat)), i < ts.length → Shape ts.length us.length tab → ∃ y4, g (.int (i : Int)) (.d (.tuple (rowsOf ts)) :: .d (.tuple (rowsOf us)) :: .own2 (grid tab) :: x3 :: x4 :: rest)
      = .nx (.d (.tuple (rowsOf ts)) :: .d (.tuple (rowsOf us)) :: .own2 (grid (rowUp ts us i (downs us.length) tab)) :: .d (.int (i : Int)) :: y4 :: rest)) : ∀ (is : List Nat) (tab : List (List Nat)) (x3 x4 : Cell), (∀ i ∈ is, i < ts.length) → Shape ts.length us.length tab →
    Shape ts.length us.length (tabUp ts us is tab) ∧ ∃ y3 y4, forD g (is.map fun k : Nat => PySem.PyData.int (k : Int)) (.d (.tuple (rowsOf ts)) :: .d (.tuple (rowsOf us)) :: .own2 (grid tab) :: x3 :: x4 :: rest)
      = .nx (.d (.tuple (rowsOf ts)) :: .d (.tuple (rowsOf us)) :: .own2 (grid (tabUp ts us is tab)) :: y3 :: y4 :: rest)
  | [], tab, x3, x4, _, h => ⟨h, x3, x4, rfl⟩
  | i :: is, tab, x3, x4, hi, h => by
    obtain ⟨y, hy⟩ := hg i x3 x4 tab (hi i List.mem_cons_self) h
    obtain ⟨h0, _⟩ := row_grid (rest := rest) gt gu (hi i List.mem_cons_self) (downs us.length) tab x4 (fun j hj => downs_lt hj) h
    obtain ⟨h1, y3, y4, h2⟩ := tab_grid hu gt gu hg is (rowUp ts us i (downs us.length) tab) (.d (.int (i : Int))) y (fun k hk => hi k (List.mem_cons_of_mem _ hk)) h0
    exact ⟨h1, y3, y4, (forD_nx hy).trans h2⟩
def zeros (n m : Nat) : List (List Nat) := List.replicate (n + 1) (List.replicate (m + 1) 0)
theorem zeros_shape {n m : Nat} : Shape n m (zeros n m) := ⟨by unfold zeros; rw [List.length_replicate], fun i hi => by
  unfold zeros
  rw [List.getD_eq_getElem?_getD, List.getElem?_replicate, if_pos (by omega)]
  exact List.length_replicate⟩
theorem zeros_grid {n m : Nat} : grid (zeros n m) = List.replicate (n + 1) (List.replicate (m + 1) (.int 0)) := by
  unfold grid zeros nums
  rw [List.map_replicate, List.map_replicate]
  rfl
def tabOf (ts us : List Nat) : List (List Nat) := tabUp ts us (downs ts.length) (zeros ts.length us.length)
theorem common_ok {ts us : List Nat} (ht : ts.length ≤ 1000) (hu : us.length ≤ 1000) (gt : Good ts) (gu : Good us) : m_common_lengths [.tuple (rowsOf ts), .tuple (rowsOf us)] = .ok (.own2 (grid (tabOf ts us))) ∧ Shape ts.length us.length (tabOf ts us) := by
  obtain ⟨h1, y3, y4, h2⟩ := tab_grid (rest := [.un]) (by omega) gt gu (fun i x3 x4 tab hi h => turn_grid (by omega) gt gu hi h) (downs ts.length) (zeros ts.length us.length) .un .un (fun j hj => downs_lt hj) zeros_shape
  refine ⟨?_, h1⟩
  have r1 := rev_nat (n := ts.length) (by omega)
  rw [step_downs] at r1
  have r2 := rng1_nat (n := ts.length + 1) (by omega)
  rw [show ((ts.length + 1 : Nat) : Int) = (ts.length : Int) + 1 from rfl] at r2
  have m1 := mulD_one (x := PySem.PyData.int 0) (n := us.length + 1) (by omega)
  rw [show ((us.length + 1 : Nat) : Int) = (us.length : Int) + 1 from rfl] at m1
  have l0 : lstR (.ok [PySem.PyData.int 0]) = .ok (.own [.int 0]) := lstR_ok (by decide)
  have key := lcR_map (vs := [5]) (i := 5) (f := fun en => ((lstR (consR (cstD (.int 0) en) (R.ok []))).bind fun x => (((getC 1 en).bind lenD).bind fun x => (cstD (.int 1) en).bind fun y => addD x y).bind fun y => mulD x y)) (xs := upFrom 0 (ts.length + 1))
    (e := [.d (.tuple (rowsOf ts)), .d (.tuple (rowsOf us)), .un, .un, .un, .un]) (g := fun _ => List.replicate (us.length + 1) (.int 0)) (by rw [up_len]; omega) (fun x hx => by
      simp -implicitDefEqProofs [rows_len, l0, m1])
  have e0 : (upFrom 0 (ts.length + 1)).map (fun _ => List.replicate (us.length + 1) (PySem.PyData.int 0)) = grid (zeros ts.length us.length) := by
    rw [zeros_grid, List.map_const', up_len]
  rw [e0] at key
  unfold m_common_lengths runD g_common_lengths
  simp -implicitDefEqProofs at key
  simp -implicitDefEqProofs [startD, rows_len, r1, r2, key, setR, h2, tabOf]
theorem table_ok {ts us : List Nat} (ht : ts.length ≤ 1000) (hu : us.length ≤ 1000) (gt : Good ts) (gu : Good us) : m_law_table_of [.tuple (rowsOf ts), .tuple (rowsOf us)] = .ok (.own2 (grid (tabOf ts us))) := by
  obtain ⟨h1, y3, y4, h2⟩ := tab_grid (rest := []) (by omega) gt gu (fun i x3 x4 tab hi h => turn_grid' (by omega) gt gu hi h) (downs ts.length) (zeros ts.length us.length) .un .un (fun j hj => downs_lt hj) zeros_shape
  have r1 := down_nat (n := ts.length) (by omega)
  rw [step_downs] at r1
  have r2 := rng1_nat (n := ts.length + 1) (by omega)
  rw [show ((ts.length + 1 : Nat) : Int) = (ts.length : Int) + 1 from rfl] at r2
  have r3 := rng1_nat (n := us.length + 1) (by omega)
  rw [show ((us.length + 1 : Nat) : Int) = (us.length : Int) + 1 from rfl] at r3
  have k1 := fun e : Env => lcL_map (vs := [4]) (i := 4) (f := fun en => (cstD (.int 0) en)) (xs := upFrom 0 (us.length + 1)) (e := e) (g := fun _ => PySem.PyData.int 0) (by rw [up_len]; omega) (fun x hx => rfl)
  have e1 : (upFrom 0 (us.length + 1)).map (fun _ => PySem.PyData.int 0) = List.replicate (us.length + 1) (PySem.PyData.int 0) := by rw [List.map_const', up_len]
  rw [e1] at k1
  have key := lcR_map (vs := [3]) (i := 3) (f := fun en => (((((getC 1 en).bind lenD).bind fun x => (cstD (.int 1) en).bind fun y => addD x y).bind rng1D).bind fun xs => lcL (lcD ([4] : List Nat) (.nm 4) (fun en => (R.ok true)) (fun en => (cstD (.int 0) en)) xs en))) (xs := upFrom 0 (ts.length + 1))
    (e := [.d (.tuple (rowsOf ts)), .d (.tuple (rowsOf us)), .un, .un, .un]) (g := fun _ => List.replicate (us.length + 1) (.int 0)) (by rw [up_len]; omega) (fun x hx => by
      simp -implicitDefEqProofs at k1
      simp -implicitDefEqProofs [rows_len, r3, k1])
  have e0 : (upFrom 0 (ts.length + 1)).map (fun _ => List.replicate (us.length + 1) (PySem.PyData.int 0)) = grid (zeros ts.length us.length) := by
    rw [zeros_grid, List.map_const', up_len]
  rw [e0] at key
  unfold m_law_table_of runD g_law_table_of
  simp -implicitDefEqProofs at key
  simp -implicitDefEqProofs [startD, rows_len, r1, r2, key, setR, h2, tabOf]
end K92
namespace K92
open DL L2
/-! ### the partners -/
def pick (ts us : List Nat) (adv : Nat → Nat → Bool) (i j : Nat) : List (Option Nat) :=
  if h : i < ts.length ∧ j < us.length then
    if ts.getD i 0 = us.getD j 0 then some j :: pick ts us adv (i + 1) (j + 1)
    else if adv i j = true then none :: pick ts us adv (i + 1) j
    else pick ts us adv i (j + 1)
  else List.replicate (ts.length - i) none
termination_by (ts.length - i) + (us.length - j)
section
variable {ts us : List Nat} {adv : Nat → Nat → Bool} {i j : Nat}
theorem pick_same (hi : i < ts.length) (hj : j < us.length) (h : ts.getD i 0 = us.getD j 0) : pick ts us adv i j = some j :: pick ts us adv (i + 1) (j + 1) := by
  rw [pick, dif_pos ⟨hi, hj⟩, if_pos h]
theorem pick_adv (hi : i < ts.length) (hj : j < us.length) (h : ¬ ts.getD i 0 = us.getD j 0) (ha : adv i j = true) : pick ts us adv i j = none :: pick ts us adv (i + 1) j := by
  rw [pick, dif_pos ⟨hi, hj⟩, if_neg h, if_pos ha]
theorem pick_skip (hi : i < ts.length) (hj : j < us.length) (h : ¬ ts.getD i 0 = us.getD j 0) (ha : ¬ adv i j = true) : pick ts us adv i j = pick ts us adv i (j + 1) := by
  rw [pick, dif_pos ⟨hi, hj⟩, if_neg h, if_neg ha]
theorem pick_end (h : ¬ (i < ts.length ∧ j < us.length)) : pick ts us adv i j = List.replicate (ts.length - i) none := by
  rw [pick, dif_neg h]
theorem pick_last (hi : i < ts.length) (hj : ¬ j < us.length) : pick ts us adv i j = none :: pick ts us adv (i + 1) j := by
  rw [pick_end (fun h => hj h.2), pick_end (fun h => hj h.2), show ts.length - i = (ts.length - (i + 1)) + 1 by omega, List.replicate_succ]
end
def opt : Option Nat → D
  | none => .none
  | some j => .int (j : Int)
def opts (l : List (Option Nat)) : List D := l.map opt
def room (pre : List (Option Nat)) (n : Nat) : List (Option Nat) := pre ++ List.replicate n none
theorem room_set {pre : List (Option Nat)} {n j : Nat} (hn : 0 < n) : setAt (opts (room pre n)) (pre.length : Int) (.int (j : Int)) = some (opts (room (pre ++ [some j]) (n - 1))) := by
  rw [setAt_nat (by unfold opts room; simp; omega)]
  obtain ⟨m, rfl⟩ : ∃ m, n = m + 1 := ⟨n - 1, by omega⟩
  unfold opts room
  rw [Nat.add_sub_cancel, List.replicate_succ]
  simp [opt]
theorem room_none {pre : List (Option Nat)} {n : Nat} (hn : 0 < n) : room pre n = room (pre ++ [none]) (n - 1) := by
  obtain ⟨m, rfl⟩ : ∃ m, n = m + 1 := ⟨n - 1, by omega⟩
  unfold room
  rw [Nat.add_sub_cancel, List.replicate_succ]
  simp
def advOf (ts us : List Nat) (i j : Nat) : Bool := decide (at2 (tabOf ts us) i (j + 1) ≤ at2 (tabOf ts us) (i + 1) j)
def mates (ts us : List Nat) : List (Option Nat) := pick ts us (advOf ts us) 0 0
theorem partners_ok {ts us : List Nat} (ht : ts.length ≤ 1000) (hu : us.length ≤ 1000) (gt : Good ts) (gu : Good us) : m_partners_of [.tuple (rowsOf ts), .tuple (rowsOf us)] = .ok (.own (opts (mates ts us))) := by
  obtain ⟨c1, hS⟩ := common_ok ht hu gt gu
  obtain ⟨e', w1, w2⟩ := whileD_ind (c := l0_partners_of) (g := l1_partners_of)
    (P := fun mm e => ∃ (i j : Nat) (pre : List (Option Nat)), e = [.d (.tuple (rowsOf ts)), .d (.tuple (rowsOf us)), .own2 (grid (tabOf ts us)), .own (opts (room pre (ts.length - i))), .d (.int (i : Int)), .d (.int (j : Int))] ∧ pre.length = i ∧ i ≤ ts.length ∧ j ≤ us.length ∧ pre ++ pick ts us (advOf ts us) i j = mates ts us ∧ mm = (ts.length - i) + (us.length - j))
    (Q := fun e => ∃ (x4 x5 : Cell), e = [.d (.tuple (rowsOf ts)), .d (.tuple (rowsOf us)), .own2 (grid (tabOf ts us)), .own (opts (mates ts us)), x4, x5])
    (fun mm e h => by
      obtain ⟨i, j, pre, rfl, hp, hi, hj, hk, rfl⟩ := h
      by_cases hh : i < ts.length ∧ j < us.length
      · obtain ⟨hi', hj'⟩ := hh
        refine .inr ⟨by simp -implicitDefEqProofs [l0_partners_of, rows_len, hi', hj'], ?_⟩
        have i1 := idx_rows hi'
        have i2 := idx_rows hj'
        have e1 := item_eq (good_at gt hi') (good_at gu hj')
        have g1 := idx_grid (j := 0) hS (i := i) (by omega)
        have g2 := idx_grid (j := 0) hS (i := i + 1) (by omega)
        have n2 := idx_nums hS (i := i + 1) (j := j) (by omega) (by omega)
        have n3 := idx_nums hS (i := i) (j := j + 1) (by omega) (by omega)
        have sa := room_set (pre := pre) (n := ts.length - i) (j := j) (by omega)
        rw [hp] at sa
        rw [show ((i + 1 : Nat) : Int) = (i : Int) + 1 from rfl] at g2
        rw [show ((j + 1 : Nat) : Int) = (j : Int) + 1 from rfl] at n3
        by_cases q : ts.getD i 0 = us.getD j 0
        · rw [pick_same hi' hj' q] at hk
          refine ⟨[.d (.tuple (rowsOf ts)), .d (.tuple (rowsOf us)), .own2 (grid (tabOf ts us)), .own (opts (room (pre ++ [some j]) (ts.length - i - 1))), .d (.int ((i : Int) + 1)), .d (.int ((j : Int) + 1))], ?_, _, ?_, i + 1, j + 1, pre ++ [some j], rfl, by simp [hp], by omega, by omega, by simpa using hk, rfl⟩
          · rw [q] at i1 e1
            simp -implicitDefEqProofs [-List.getD_eq_getElem?_getD, l1_partners_of, i1, i2, e1, sa]
          · omega
        · by_cases ha : advOf ts us i j = true
          · rw [pick_adv hi' hj' q ha] at hk
            refine ⟨[.d (.tuple (rowsOf ts)), .d (.tuple (rowsOf us)), .own2 (grid (tabOf ts us)), .own (opts (room (pre ++ [none]) (ts.length - i - 1))), .d (.int ((i : Int) + 1)), .d (.int (j : Int))], ?_, _, ?_, i + 1, j, pre ++ [none], rfl, by simp [hp], by omega, by omega, by simpa using hk, rfl⟩
            · rw [← room_none (by omega)]
              unfold advOf at ha
              have ha' := of_decide_eq_true ha
              simp -implicitDefEqProofs [-List.getD_eq_getElem?_getD, l1_partners_of, i1, i2, e1, q, g1, g2, n2, n3, ha']
            · omega
          · rw [pick_skip hi' hj' q ha] at hk
            refine ⟨[.d (.tuple (rowsOf ts)), .d (.tuple (rowsOf us)), .own2 (grid (tabOf ts us)), .own (opts (room pre (ts.length - i))), .d (.int (i : Int)), .d (.int ((j : Int) + 1))], ?_, _, ?_, i, j + 1, pre, rfl, hp, by omega, by omega, hk, rfl⟩
            · unfold advOf at ha
              have ha' : ¬ at2 (tabOf ts us) i (j + 1) ≤ at2 (tabOf ts us) (i + 1) j := fun h => ha (decide_eq_true h)
              simp -implicitDefEqProofs [-List.getD_eq_getElem?_getD, l1_partners_of, i1, i2, e1, q, g1, g2, n2, n3, ha', -Nat.not_le, -Int.not_le]
            · omega
      · refine .inl ⟨?_, .d (.int (i : Int)), .d (.int (j : Int)), ?_⟩
        · by_cases hi' : i < ts.length
          · have hj' : ¬ j < us.length := fun h => hh ⟨hi', h⟩
            simp -implicitDefEqProofs [l0_partners_of, rows_len, hi', hj', -Nat.not_lt]
          · simp -implicitDefEqProofs [l0_partners_of, rows_len, hi', -Nat.not_lt]
        · rw [pick_end hh] at hk
          rw [← hk]
          rfl)
    (ts.length + us.length) 1000000 [.d (.tuple (rowsOf ts)), .d (.tuple (rowsOf us)), .own2 (grid (tabOf ts us)), .own (List.replicate ts.length .none), .d (.int 0), .d (.int 0)]
    ⟨0, 0, [], by
      have : opts (room [] (ts.length - 0)) = List.replicate ts.length .none := by
        unfold opts room
        rw [Nat.sub_zero, List.nil_append, List.map_replicate]; rfl
      rw [this]; rfl, rfl, by omega, by omega, rfl, rfl⟩ (by omega)
  obtain ⟨x4, x5, rfl⟩ := w2
  have m1 := mulD_one (x := PySem.PyData.none) (n := ts.length) (by omega)
  have l0 : lstR (.ok [PySem.PyData.none]) = .ok (.own [.none]) := lstR_ok (by decide)
  unfold m_partners_of runD g_partners_of
  simp -implicitDefEqProofs [startD, rows_len, c1, l0, m1, setR, w1]
theorem law_partners_ok {ts us : List Nat} (ht : ts.length ≤ 1000) (hu : us.length ≤ 1000) (gt : Good ts) (gu : Good us) : m_law_partners [.tuple (rowsOf ts), .tuple (rowsOf us)] = .ok (.own (opts (mates ts us))) := by
  have c1 := table_ok ht hu gt gu
  obtain ⟨_, hS⟩ := common_ok ht hu gt gu
  have inner : ∀ (i j : Nat) (o : List D) (x6 : Cell), i < ts.length → j ≤ us.length → ∃ j' : Nat, j' ≤ us.length ∧ pick ts us (advOf ts us) i j' = pick ts us (advOf ts us) i j ∧ (j' < us.length → ts.getD i 0 = us.getD j' 0 ∨ advOf ts us i j' = true) ∧
      whileD l0_law_partners l1_law_partners 1000000 [.d (.tuple (rowsOf ts)), .d (.tuple (rowsOf us)), .own2 (grid (tabOf ts us)), .own o, .d (.int (j : Int)), .d (.int (i : Int)), x6] = .nx [.d (.tuple (rowsOf ts)), .d (.tuple (rowsOf us)), .own2 (grid (tabOf ts us)), .own o, .d (.int (j' : Int)), .d (.int (i : Int)), x6] := by
    intro i j o x6 hi hj
    obtain ⟨e', w1, w2⟩ := whileD_ind (c := l0_law_partners) (g := l1_law_partners)
      (P := fun mm e => ∃ j' : Nat, e = [.d (.tuple (rowsOf ts)), .d (.tuple (rowsOf us)), .own2 (grid (tabOf ts us)), .own o, .d (.int (j' : Int)), .d (.int (i : Int)), x6] ∧ j' ≤ us.length ∧ pick ts us (advOf ts us) i j' = pick ts us (advOf ts us) i j ∧ mm = us.length - j')
      (Q := fun e => ∃ j' : Nat, e = [.d (.tuple (rowsOf ts)), .d (.tuple (rowsOf us)), .own2 (grid (tabOf ts us)), .own o, .d (.int (j' : Int)), .d (.int (i : Int)), x6] ∧ j' ≤ us.length ∧ pick ts us (advOf ts us) i j' = pick ts us (advOf ts us) i j ∧ (j' < us.length → ts.getD i 0 = us.getD j' 0 ∨ advOf ts us i j' = true))
      (fun mm e h => by
        obtain ⟨k, rfl, hk, hp, rfl⟩ := h
        by_cases hk' : k < us.length
        · have i1 := idx_rows hi
          have i2 := idx_rows hk'
          have e1 := item_ne (good_at gt hi) (good_at gu hk')
          have g1 := idx_grid (j := 0) hS (i := i) (by omega)
          have g2 := idx_grid (j := 0) hS (i := i + 1) (by omega)
          have n2 := idx_nums hS (i := i + 1) (j := k) (by omega) (by omega)
          have n3 := idx_nums hS (i := i) (j := k + 1) (by omega) (by omega)
          rw [show ((i + 1 : Nat) : Int) = (i : Int) + 1 from rfl] at g2
          rw [show ((k + 1 : Nat) : Int) = (k : Int) + 1 from rfl] at n3
          by_cases q : ts.getD i 0 = us.getD k 0
          · refine .inl ⟨?_, k, rfl, hk, hp, fun _ => .inl q⟩
            rw [q] at i1 e1
            simp -implicitDefEqProofs [-List.getD_eq_getElem?_getD, l0_law_partners, rows_len, hk', i1, i2, e1]
          · by_cases ha : advOf ts us i k = true
            · refine .inl ⟨?_, k, rfl, hk, hp, fun _ => .inr ha⟩
              unfold advOf at ha
              have ha' := Nat.not_lt.mpr (of_decide_eq_true ha)
              simp -implicitDefEqProofs [-List.getD_eq_getElem?_getD, l0_law_partners, rows_len, hk', i1, i2, e1, q, g1, g2, n2, n3, ha', -Nat.not_lt, -Int.not_lt]
            · refine .inr ⟨?_, [.d (.tuple (rowsOf ts)), .d (.tuple (rowsOf us)), .own2 (grid (tabOf ts us)), .own o, .d (.int ((k : Int) + 1)), .d (.int (i : Int)), x6], ?_, us.length - (k + 1), by omega, k + 1, rfl, by omega, (pick_skip hi hk' q ha).symm.trans hp, rfl⟩
              · unfold advOf at ha
                have ha' : at2 (tabOf ts us) (i + 1) k < at2 (tabOf ts us) i (k + 1) := Nat.lt_of_not_le fun h => ha (decide_eq_true h)
                simp -implicitDefEqProofs [-List.getD_eq_getElem?_getD, l0_law_partners, rows_len, hk', i1, i2, e1, q, g1, g2, n2, n3, ha']
              · simp -implicitDefEqProofs [l1_law_partners, setR]
        · refine .inl ⟨?_, k, rfl, hk, hp, fun h => absurd h hk'⟩
          simp -implicitDefEqProofs [l0_law_partners, rows_len, hk', -Nat.not_lt])
      (us.length - j) 1000000 _ ⟨j, rfl, hj, rfl, rfl⟩ (by omega)
    obtain ⟨j', rfl, h2, h3, h4⟩ := w2
    exact ⟨j', h2, h3, h4, w1⟩
  obtain ⟨e', f1, f2⟩ := forD_ind (g := turnD (.nm 5) l2_law_partners) (xs := upFrom 0 ts.length) (e := [.d (.tuple (rowsOf ts)), .d (.tuple (rowsOf us)), .own2 (grid (tabOf ts us)), .own (List.replicate ts.length .none), .d (.int 0), .un, .un])
    (P := fun i e => ∃ (j : Nat) (pre : List (Option Nat)) (x5 x6 : Cell), e = [.d (.tuple (rowsOf ts)), .d (.tuple (rowsOf us)), .own2 (grid (tabOf ts us)), .own (opts (room pre (ts.length - i))), .d (.int (j : Int)), x5, x6] ∧ pre.length = i ∧ j ≤ us.length ∧ pre ++ pick ts us (advOf ts us) i j = mates ts us)
    ⟨0, [], .un, .un, by
      have : opts (room [] (ts.length - 0)) = List.replicate ts.length .none := by
        unfold opts room
        rw [Nat.sub_zero, List.nil_append, List.map_replicate]; rfl
      rw [this]; rfl, rfl, by omega, rfl⟩ (fun i x e hx hP => by
      obtain ⟨j, pre, x5, x6, rfl, hp, hj, hk⟩ := hP
      obtain ⟨hi, rfl⟩ := upz_get hx
      obtain ⟨k, hkl, hkp, hks, hw⟩ := inner i j (opts (room pre (ts.length - i))) x6 hi hj
      rw [← hkp] at hk
      have sa := room_set (pre := pre) (n := ts.length - i) (j := k) (by omega)
      rw [hp] at sa
      by_cases hk' : k < us.length
      · have i1 := idx_rows hi
        have i2 := idx_rows hk'
        have e1 := item_eq (good_at gt hi) (good_at gu hk')
        by_cases q : ts.getD i 0 = us.getD k 0
        · rw [pick_same hi hk' q] at hk
          refine ⟨[.d (.tuple (rowsOf ts)), .d (.tuple (rowsOf us)), .own2 (grid (tabOf ts us)), .own (opts (room (pre ++ [some k]) (ts.length - i - 1))), .d (.int ((k : Int) + 1)), .d (.int (i : Int)), x6], ?_, k + 1, pre ++ [some k], _, _, rfl, by simp [hp], by omega, by simpa using hk⟩
          rw [q] at i1 e1
          simp -implicitDefEqProofs [-List.getD_eq_getElem?_getD, l2_law_partners, hw, rows_len, hk', i1, i2, e1, sa, setR]
        · have ha := (hks hk').resolve_left q
          rw [pick_adv hi hk' q ha] at hk
          refine ⟨[.d (.tuple (rowsOf ts)), .d (.tuple (rowsOf us)), .own2 (grid (tabOf ts us)), .own (opts (room (pre ++ [none]) (ts.length - i - 1))), .d (.int (k : Int)), .d (.int (i : Int)), x6], ?_, k, pre ++ [none], _, _, rfl, by simp [hp], by omega, by simpa using hk⟩
          rw [← room_none (by omega)]
          simp -implicitDefEqProofs [-List.getD_eq_getElem?_getD, l2_law_partners, hw, rows_len, hk', i1, i2, e1, q]
      · rw [pick_last hi hk'] at hk
        refine ⟨[.d (.tuple (rowsOf ts)), .d (.tuple (rowsOf us)), .own2 (grid (tabOf ts us)), .own (opts (room (pre ++ [none]) (ts.length - i - 1))), .d (.int (k : Int)), .d (.int (i : Int)), x6], ?_, k, pre ++ [none], _, _, rfl, by simp [hp], by omega, by simpa using hk⟩
        rw [← room_none (by omega)]
        simp -implicitDefEqProofs [-List.getD_eq_getElem?_getD, l2_law_partners, hw, rows_len, hk', -Nat.not_lt])
  rw [up_len] at f2
  obtain ⟨j, pre, x5, x6, rfl, hp, hj, hk⟩ := f2
  have he : room pre (ts.length - ts.length) = mates ts us := by
    rw [← hk, pick_end (fun h => absurd h.1 (Nat.lt_irrefl _))]
    rfl
  rw [he] at f1
  have r1 := rng1_nat (n := ts.length) (by omega)
  have key := lcL_map (vs := [6]) (i := 6) (f := fun en => (cstD .none en)) (xs := rowsOf ts) (e := [.d (.tuple (rowsOf ts)), .d (.tuple (rowsOf us)), .own2 (grid (tabOf ts us)), .un, .un, .un, .un]) (g := fun _ => PySem.PyData.none) (by rw [rows_len]; omega) (fun x hx => rfl)
  rw [List.map_const', rows_len] at key
  unfold m_law_partners runD g_law_partners
  simp -implicitDefEqProofs at key
  simp -implicitDefEqProofs [startD, rows_len, c1, r1, key, setR, f1]
end K92
namespace K92
open DL L2
/-! ### merging -/
def chunk (o l r : List Nat) : Option (List Nat) := if l = o then some r else if r = o ∨ l = r then some l else none
def seg (xs : List Nat) (a b : Nat) : List Nat := (xs.drop a).take (b - a)
theorem seg_good {xs : List Nat} {a b : Nat} (h : Good xs) : Good (seg xs a b) := fun t ht => h t (List.mem_of_mem_drop (List.mem_of_mem_take ht))
theorem seg_len {xs : List Nat} {a b : Nat} : (seg xs a b).length ≤ xs.length := by
  unfold seg; rw [List.length_take, List.length_drop]; omega
theorem seg_one {xs : List Nat} {i : Nat} (h : i < xs.length) : seg xs i (i + 1) = [xs.getD i 0] := by
  unfold seg
  rw [show i + 1 - i = 1 by omega, List.drop_eq_getElem_cons h, List.getD_eq_getElem?_getD, List.getElem?_eq_getElem h]
  rfl
theorem seg_past {xs : List Nat} {i : Nat} (h : xs.length ≤ i) : seg xs i (i + 1) = [] := by
  unfold seg
  rw [List.drop_of_length_le h, List.take_nil]
def conflict {α : Type} (p : Nat) : R α := .ex (PySem.Str.ofString "Conflict") [(PySem.Str.ofString "place", .int (p : Int))]
theorem chosen_ok {o l r : List Nat} {p : Nat} (ho : Good o) (hl : Good l) (hr : Good r) : m_chosen_chunk [.tuple (rowsOf o), .tuple (rowsOf l), .tuple (rowsOf r), .int (p : Int)] = match chunk o l r with | some c => .ok (.d (.tuple (rowsOf c))) | none => conflict p := by
  have e1 := tup_eq hl ho
  have e2 := tup_eq hr ho
  have e3 := tup_eq hl hr
  unfold m_chosen_chunk runD g_chosen_chunk chunk conflict
  by_cases q1 : l = o
  · simp -implicitDefEqProofs [startD, e1, q1]
    rw [q1] at e1
    simp -implicitDefEqProofs [e1]
  · by_cases q2 : r = o
    · simp -implicitDefEqProofs [startD, e1, e2, q1, q2]
      rw [q2] at e2
      simp -implicitDefEqProofs [e2]
    · by_cases q3 : l = r
      · simp -implicitDefEqProofs [startD, e1, e2, e3, q1, q2, q3]
        rw [q3] at e1 e3
        simp -implicitDefEqProofs [e1, e3, q2]
      · simp -implicitDefEqProofs [startD, e1, e2, e3, q1, q2, q3]
theorem chunk_good {o l r c : List Nat} (hl : Good l) (hr : Good r) (h : chunk o l r = some c) : Good c ∧ c.length ≤ l.length + r.length := by
  unfold chunk at h
  split at h
  · cases h; exact ⟨hr, by omega⟩
  · split at h
    · cases h; exact ⟨hl, by omega⟩
    · cases h
def due (base left right : List Nat) : Nat → Nat → Nat → List Nat → List (Nat × Nat × Nat) → Nat ⊕ List Nat
  | _, _, _, f, [] => .inr f
  | a0, a1, a2, f, (c0, c1, c2) :: cs => match chunk (seg base a0 c0) (seg left a1 c1) (seg right a2 c2) with
    | some ch => due base left right (c0 + 1) (c1 + 1) (c2 + 1) (f ++ ch ++ seg base c0 (c0 + 1)) cs
    | none => .inl a0
def cutsL : Nat → List (Option Nat) → List (Option Nat) → List (Nat × Nat × Nat)
  | i, some a :: tl, some b :: tr => (i, a, b) :: cutsL (i + 1) tl tr
  | i, _ :: tl, _ :: tr => cutsL (i + 1) tl tr
  | _, _, _ => []
def cut3 (c : Nat × Nat × Nat) : D := .tuple [.int (c.1 : Int), .int (c.2.1 : Int), .int (c.2.2 : Int)]
def old3 (a0 a1 a2 : Nat) : D := .tuple [.int ((a0 : Int) - 1), .int ((a1 : Int) - 1), .int ((a2 : Int) - 1)]
section
variable {base left right : List Nat} {TL TR st cu : Cell}
/-- the law's turn -/
theorem due_turn {a0 a1 a2 c0 c1 c2 : Nat} {f : List Nat} {x9 x10 x11 : Cell} (gb : Good base) (gl : Good left) (gr : Good right) (hf : f.length + left.length + right.length ≤ 16000000) :
    turnD (.nm 9) l0_law_due (cut3 (c0, c1, c2)) [.d (.tuple (rowsOf base)), .d (.tuple (rowsOf left)), .d (.tuple (rowsOf right)), TL, TR, st, cu, .d (.tuple (rowsOf f)), .d (old3 a0 a1 a2), x9, x10, x11]
      = match chunk (seg base a0 c0) (seg left a1 c1) (seg right a2 c2) with
        | some ch => .nx [.d (.tuple (rowsOf base)), .d (.tuple (rowsOf left)), .d (.tuple (rowsOf right)), TL, TR, st, cu, .d (.tuple (rowsOf (f ++ ch ++ seg base c0 (c0 + 1)))), .d (old3 (c0 + 1) (c1 + 1) (c2 + 1)), .d (cut3 (c0, c1, c2)), .own [.tuple (rowsOf (seg base a0 c0)), .tuple (rowsOf (seg left a1 c1)), .tuple (rowsOf (seg right a2 c2))], x11]
        | none => .rt (.d (.int (a0 : Int))) := by
  have o0 : idxD (.d (old3 a0 a1 a2)) (.d (.int 0)) = .ok (.d (.int ((a0 : Int) - 1))) := rfl
  have o1 : idxD (.d (old3 a0 a1 a2)) (.d (.int 1)) = .ok (.d (.int ((a1 : Int) - 1))) := rfl
  have o2 : idxD (.d (old3 a0 a1 a2)) (.d (.int 2)) = .ok (.d (.int ((a2 : Int) - 1))) := rfl
  have k0 : idxD (.d (cut3 (c0, c1, c2))) (.d (.int 0)) = .ok (.d (.int (c0 : Int))) := rfl
  have k1 : idxD (.d (cut3 (c0, c1, c2))) (.d (.int 1)) = .ok (.d (.int (c1 : Int))) := rfl
  have k2 : idxD (.d (cut3 (c0, c1, c2))) (.d (.int 2)) = .ok (.d (.int (c2 : Int))) := rfl
  have s0 : cutD (rowsOf base) (some (a0 : Int)) (some (c0 : Int)) = rowsOf (seg base a0 c0) := rows_cut
  have s1 : cutD (rowsOf left) (some (a1 : Int)) (some (c1 : Int)) = rowsOf (seg left a1 c1) := rows_cut
  have s2 : cutD (rowsOf right) (some (a2 : Int)) (some (c2 : Int)) = rowsOf (seg right a2 c2) := rows_cut
  have s3 : cutD (rowsOf base) (some (c0 : Int)) (some ((c0 : Int) + 1)) = rowsOf (seg base c0 (c0 + 1)) := rows_cut (b := c0 + 1)
  have e1 := tup_eq (seg_good (a := a1) (b := c1) gl) (seg_good (a := a0) (b := c0) gb)
  have e2 := tup_eq (seg_good (a := a2) (b := c2) gr) (seg_good (a := a0) (b := c0) gb)
  have e3 := tup_eq (seg_good (a := a1) (b := c1) gl) (seg_good (a := a2) (b := c2) gr)
  have eo : old3 (c0 + 1) (c1 + 1) (c2 + 1) = cut3 (c0, c1, c2) := by
    unfold old3 cut3
    simp
  have l1 : (seg left a1 c1).length ≤ left.length := seg_len
  have l2 : (seg right a2 c2).length ≤ right.length := seg_len
  have l3 : (seg base c0 (c0 + 1)).length ≤ 1 := by unfold seg; rw [List.length_take]; omega
  have t1 : addD (.d (.tuple (rowsOf f))) (.d (.tuple (rowsOf (seg left a1 c1)))) = .ok (.d (.tuple (rowsOf (f ++ seg left a1 c1)))) := rows_tup (by omega)
  have t2 : addD (.d (.tuple (rowsOf f))) (.d (.tuple (rowsOf (seg right a2 c2)))) = .ok (.d (.tuple (rowsOf (f ++ seg right a2 c2)))) := rows_tup (by omega)
  have t3 : addD (.d (.tuple (rowsOf (f ++ seg left a1 c1)))) (.d (.tuple (rowsOf (seg base c0 (c0 + 1))))) = .ok (.d (.tuple (rowsOf (f ++ seg left a1 c1 ++ seg base c0 (c0 + 1))))) := rows_tup (by rw [List.length_append]; omega)
  have t4 : addD (.d (.tuple (rowsOf (f ++ seg right a2 c2)))) (.d (.tuple (rowsOf (seg base c0 (c0 + 1))))) = .ok (.d (.tuple (rowsOf (f ++ seg right a2 c2 ++ seg base c0 (c0 + 1))))) := rows_tup (by rw [List.length_append]; omega)
  rw [eo]
  generalize seg base c0 (c0 + 1) = sb at *
  generalize seg base a0 c0 = so at *
  generalize seg left a1 c1 = sl at *
  generalize seg right a2 c2 = sr at *
  generalize hfl : f ++ sl = fl at *
  generalize hfr : f ++ sr = fr at *
  have p3 : lstR (.ok [PySem.PyData.tuple (rowsOf so), .tuple (rowsOf sl), .tuple (rowsOf sr)]) = .ok (.own [.tuple (rowsOf so), .tuple (rowsOf sl), .tuple (rowsOf sr)]) := lstR_ok (by simp)
  have j0 : idxD (.own [PySem.PyData.tuple (rowsOf so), .tuple (rowsOf sl), .tuple (rowsOf sr)]) (.d (.int 0)) = .ok (.d (.tuple (rowsOf so))) := rfl
  have j1 : idxD (.own [PySem.PyData.tuple (rowsOf so), .tuple (rowsOf sl), .tuple (rowsOf sr)]) (.d (.int 1)) = .ok (.d (.tuple (rowsOf sl))) := rfl
  have j2 : idxD (.own [PySem.PyData.tuple (rowsOf so), .tuple (rowsOf sl), .tuple (rowsOf sr)]) (.d (.int 2)) = .ok (.d (.tuple (rowsOf sr))) := rfl
  unfold chunk
  by_cases q1 : sl = so
  · rw [if_pos q1]
    rw [decide_eq_true q1] at e1
    simp -implicitDefEqProofs [-List.append_assoc, l0_law_due, setR, o0, o1, o2, k0, k1, k2, s0, s1, s2, s3, p3, j0, j1, j2, e1, hfr, t2, t4]
  · rw [if_neg q1]
    rw [decide_eq_false q1] at e1
    by_cases q2 : sr = so
    · rw [if_pos (.inl q2)]
      rw [decide_eq_true q2] at e2
      simp -implicitDefEqProofs [-List.append_assoc, l0_law_due, setR, o0, o1, o2, k0, k1, k2, s0, s1, s2, s3, p3, j0, j1, j2, e1, e2, e3, hfl, t1, t3]
    · rw [decide_eq_false q2] at e2
      by_cases q3 : sl = sr
      · rw [if_pos (.inr q3)]
        rw [decide_eq_true q3] at e3
        simp -implicitDefEqProofs [-List.append_assoc, l0_law_due, setR, o0, o1, o2, k0, k1, k2, s0, s1, s2, s3, p3, j0, j1, j2, e1, e2, e3, hfl, t1, t3]
      · rw [if_neg (fun h => h.elim q2 q3)]
        rw [decide_eq_false q3] at e3
        simp -implicitDefEqProofs [-List.append_assoc, l0_law_due, setR, o0, o1, o2, k0, k1, k2, s0, s1, s2, s3, p3, j0, j1, j2, e1, e2, e3, hfl, t1, t3]
def dueIs (TL TR st cu : Cell) (base left right : List Nat) (o : Out) : Nat ⊕ List Nat → Prop
  | .inr f => ∃ x8 x9 x10 x11, o = .nx [.d (.tuple (rowsOf base)), .d (.tuple (rowsOf left)), .d (.tuple (rowsOf right)), TL, TR, st, cu, .d (.tuple (rowsOf f)), x8, x9, x10, x11]
  | .inl p => o = .rt (.d (.int (p : Int)))
theorem due_loop (gb : Good base) (gl : Good left) (gr : Good right) (h3 : left.length + right.length ≤ 2000) : ∀ (cs : List (Nat × Nat × Nat)) (a0 a1 a2 : Nat) (f : List Nat) (x9 x10 x11 : Cell), f.length + (cs.length + 1) * 2001 ≤ 16000000 →
    dueIs TL TR st cu base left right (forD (turnD (.nm 9) l0_law_due) (cs.map cut3) [.d (.tuple (rowsOf base)), .d (.tuple (rowsOf left)), .d (.tuple (rowsOf right)), TL, TR, st, cu, .d (.tuple (rowsOf f)), .d (old3 a0 a1 a2), x9, x10, x11]) (due base left right a0 a1 a2 f cs)
  | [], a0, a1, a2, f, x9, x10, x11, _ => ⟨_, _, _, _, rfl⟩
  | (c0, c1, c2) :: cs, a0, a1, a2, f, x9, x10, x11, hl => by
    have hl' : f.length + (cs.length + 1) * 2001 + 2001 ≤ 16000000 := by
      have : ((c0, c1, c2) :: cs).length = cs.length + 1 := rfl
      rw [this] at hl
      omega
    have ht := due_turn (base := base) (left := left) (right := right) (TL := TL) (TR := TR) (st := st) (cu := cu) (a0 := a0) (a1 := a1) (a2 := a2) (c0 := c0) (c1 := c1) (c2 := c2) (f := f) (x9 := x9) (x10 := x10) (x11 := x11) gb gl gr (by omega)
    have un : due base left right a0 a1 a2 f ((c0, c1, c2) :: cs) = match chunk (seg base a0 c0) (seg left a1 c1) (seg right a2 c2) with | some ch => due base left right (c0 + 1) (c1 + 1) (c2 + 1) (f ++ ch ++ seg base c0 (c0 + 1)) cs | none => .inl a0 := rfl
    rw [un]
    have fo : forD (turnD (.nm 9) l0_law_due) (((c0, c1, c2) :: cs).map cut3) = fun e => match turnD (.nm 9) l0_law_due (cut3 (c0, c1, c2)) e with | .nx e' => forD (turnD (.nm 9) l0_law_due) (cs.map cut3) e' | .ct e' => forD (turnD (.nm 9) l0_law_due) (cs.map cut3) e' | .bk e' => .nx e' | o => o := rfl
    rw [fo]
    simp only []
    rw [ht]
    cases q : chunk (seg base a0 c0) (seg left a1 c1) (seg right a2 c2) with
    | none => exact rfl
    | some ch =>
      have lc := (chunk_good (seg_good gl) (seg_good gr) q).2
      have l1 := @seg_len left a1 c1
      have l2 := @seg_len right a2 c2
      have l3 : (seg base c0 (c0 + 1)).length ≤ 1 := by unfold seg; rw [List.length_take]; omega
      exact due_loop gb gl gr h3 cs (c0 + 1) (c1 + 1) (c2 + 1) _ _ _ _ (by rw [List.length_append, List.length_append]; omega)
end
def both (TL TR : List (Option Nat)) (i : Nat) : Bool := (TL.getD i none).isSome && (TR.getD i none).isSome
theorem cuts_eq (TL TR : List (Option Nat)) (h : TL.length = TR.length) : ∀ (d i : Nat), i + d = TL.length → ((List.range' i d).filter (both TL TR)).map (fun i => (i, (TL.getD i none).getD 0, (TR.getD i none).getD 0)) = cutsL i (TL.drop i) (TR.drop i)
  | 0, i, hi => by
    rw [List.drop_of_length_le (by omega)]
    rfl
  | d + 1, i, hi => by
    have ih := cuts_eq TL TR h d (i + 1) (by omega)
    have hl : i < TL.length := by omega
    have hr : i < TR.length := by omega
    rw [List.drop_eq_getElem_cons hl, List.drop_eq_getElem_cons hr, List.range'_succ, List.filter_cons]
    have el : TL.getD i none = TL[i] := by rw [List.getD_eq_getElem?_getD, List.getElem?_eq_getElem hl]; rfl
    have er : TR.getD i none = TR[i] := by rw [List.getD_eq_getElem?_getD, List.getElem?_eq_getElem hr]; rfl
    unfold both
    rw [el, er]
    unfold both at ih
    cases q1 : TL[i] with
    | none => exact ih
    | some a => cases q2 : TR[i] with
      | none => exact ih
      | some b =>
        rw [if_pos (show ((some a).isSome && (some b).isSome) = true from rfl), List.map_cons, ih, el, er, q1, q2]
        rfl
theorem pick_len (ts us : List Nat) (adv : Nat → Nat → Bool) : ∀ (m i j : Nat), (ts.length - i) + (us.length - j) ≤ m → (pick ts us adv i j).length = ts.length - i := by
  intro m
  induction m with
  | zero => exact fun i j h => by rw [pick_end (by omega), List.length_replicate]
  | succ m ih =>
      intro i j h
      by_cases hh : i < ts.length ∧ j < us.length
      · by_cases q : ts.getD i 0 = us.getD j 0
        · rw [pick_same hh.1 hh.2 q, List.length_cons, ih _ _ (by omega)]; omega
        · by_cases ha : adv i j = true
          · rw [pick_adv hh.1 hh.2 q ha, List.length_cons, ih _ _ (by omega)]; omega
          · rw [pick_skip hh.1 hh.2 q ha, ih _ _ (by omega)]
      · rw [pick_end hh, List.length_replicate]
theorem mates_len {ts us : List Nat} : (mates ts us).length = ts.length := pick_len ts us _ _ 0 0 (Nat.le_refl _)
def cuts (base left right : List Nat) : List (Nat × Nat × Nat) := cutsL 0 (mates base left) (mates base right) ++ [(base.length, left.length, right.length)]
theorem cutsL_len : ∀ (i : Nat) (l r : List (Option Nat)), (cutsL i l r).length ≤ l.length
  | i, [], r => by cases r <;> exact Nat.zero_le _
  | i, none :: l, [] => Nat.zero_le _
  | i, some a :: l, [] => Nat.zero_le _
  | i, none :: l, y :: r => Nat.le_succ_of_le (cutsL_len (i + 1) l r)
  | i, some a :: l, none :: r => Nat.le_succ_of_le (cutsL_len (i + 1) l r)
  | i, some a :: l, some b :: r => Nat.succ_le_succ (cutsL_len (i + 1) l r)
theorem opts_get {l : List (Option Nat)} {i : Nat} (h : i < l.length) : idxD (.own (opts l)) (.d (.int (i : Int))) = .ok (.d (opt (l.getD i none))) := by
  refine idx_own ?_
  unfold opts
  rw [List.getElem?_map, List.getD_eq_getElem?_getD, List.getElem?_eq_getElem h]
  rfl
theorem notNone_opt {o : Option Nat} : notNoneD (.d (opt o)) = .ok (.d (.bool o.isSome)) := by cases o <;> rfl
def outcome : Nat ⊕ List Nat → D
  | .inr f => .tuple (rowsOf f)
  | .inl p => .int (p : Int)
def natOf : D → Nat
  | .int i => i.toNat
  | _ => 0
def merged (base left right : List Nat) : Nat ⊕ List Nat := due base left right 0 0 0 [] (cuts base left right)
theorem law_due_ok {base left right : List Nat} (hb : base.length ≤ 500) (hl : left.length ≤ 500) (hr : right.length ≤ 500) (gb : Good base) (gl : Good left) (gr : Good right) :
    m_law_due [.tuple (rowsOf base), .tuple (rowsOf left), .tuple (rowsOf right)] = .ok (.d (outcome (merged base left right))) := by
  have p1 := law_partners_ok (by omega) (by omega) gb gl
  have p2 := law_partners_ok (by omega) (by omega) gb gr
  have lL := @mates_len base left
  have lR := @mates_len base right
  have r1 := rng1_nat (n := base.length) (by omega)
  unfold merged cuts
  generalize mates base left = TL at *
  generalize mates base right = TR at *
  have k1 := lcL_filter (vs := [11]) (i := 11) (c := fun en => (andR ((((getC 3 en).bind fun x => (getC 11 en).bind fun y => idxD x y).bind notNoneD).bind asB) ((((getC 4 en).bind fun x => (getC 11 en).bind fun y => idxD x y).bind notNoneD).bind asB))) (f := fun en => (varD 11 en)) (xs := upFrom 0 base.length)
    (e := [.d (.tuple (rowsOf base)), .d (.tuple (rowsOf left)), .d (.tuple (rowsOf right)), .own (opts TL), .own (opts TR), .un, .un, .un, .un, .un, .un, .un]) (p := fun x => both TL TR (natOf x)) (g := fun x => x) (by rw [up_len]; omega) (fun x hx => by
      obtain ⟨i, hi⟩ := List.getElem?_of_mem hx
      obtain ⟨li, rfl⟩ := upz_get hi
      have a1 := opts_get (l := TL) (i := i) (by omega)
      have a2 := opts_get (l := TR) (i := i) (by omega)
      simp -implicitDefEqProofs [-List.getD_eq_getElem?_getD, a1, a2, notNone_opt, both, natOf]
      cases TL.getD i none <;> rfl) (fun x hx _ => by
      obtain ⟨i, hi⟩ := List.getElem?_of_mem hx
      obtain ⟨li, rfl⟩ := upz_get hi
      rfl)
  have e1 : ((upFrom 0 base.length).filter fun x => both TL TR (natOf x)).map (fun x => x) = ((List.range' 0 base.length).filter (both TL TR)).map (fun i : Nat => PySem.PyData.int (i : Int)) := by
    unfold upFrom
    rw [List.map_id', List.filter_map, List.range_eq_range']
    have : ((fun x => both TL TR (natOf x)) ∘ fun i : Nat => PySem.PyData.int (0 + (i : Int))) = both TL TR := by
      funext i
      show both TL TR (natOf (.int (0 + (i : Int)))) = _
      rw [Int.zero_add]
      rfl
    rw [this]
    exact List.map_congr_left fun i _ => by rw [Int.zero_add]
  rw [e1] at k1
  have hF : ∀ i ∈ (List.range' 0 base.length).filter (both TL TR), i < base.length ∧ both TL TR i = true := fun i hi => by
    obtain ⟨h1, h2⟩ := List.mem_filter.mp hi
    exact ⟨by have := List.mem_range'_1.mp h1; omega, h2⟩
  have lF : ((List.range' 0 base.length).filter (both TL TR)).length ≤ base.length := Nat.le_trans (List.length_filter_le _ _) (by rw [List.length_range']; exact Nat.le_refl _)
  have hC := cuts_eq TL TR (by omega) base.length 0 (by omega)
  rw [List.drop_zero, List.drop_zero] at hC
  generalize (List.range' 0 base.length).filter (both TL TR) = F at *
  have k2 := lcL_map (vs := [11]) (i := 11) (f := fun en => (tupR (consR (varD 11 en) (consR (((getC 3 en).bind fun x => (getC 11 en).bind fun y => idxD x y).bind Cell.val) (consR (((getC 4 en).bind fun x => (getC 11 en).bind fun y => idxD x y).bind Cell.val) (R.ok [])))))) (xs := F.map fun i : Nat => PySem.PyData.int (i : Int))
    (e := [.d (.tuple (rowsOf base)), .d (.tuple (rowsOf left)), .d (.tuple (rowsOf right)), .own (opts TL), .own (opts TR), .own (F.map fun i : Nat => PySem.PyData.int (i : Int)), .un, .un, .un, .un, .un, .un]) (g := fun x => cut3 (natOf x, (TL.getD (natOf x) none).getD 0, (TR.getD (natOf x) none).getD 0)) (by rw [List.length_map]; omega) (fun x hx => by
      obtain ⟨i, hi, rfl⟩ := List.mem_map.mp hx
      obtain ⟨h1, h2⟩ := hF i hi
      have a1 := opts_get (l := TL) (i := i) (by omega)
      have a2 := opts_get (l := TR) (i := i) (by omega)
      have b1 : natOf (.int (i : Int)) = i := rfl
      have t3 : ∀ a b c : D, tupR (.ok [a, b, c]) = .ok (.d (.tuple [a, b, c])) := fun a b c => tupR_ok (by simp)
      rw [b1]
      unfold both at h2
      cases q1 : TL.getD i none with
      | none => rw [q1] at h2; cases h2
      | some a => cases q2 : TR.getD i none with
        | none => rw [q2, Bool.and_comm] at h2; cases h2
        | some b =>
          rw [q1] at a1
          rw [q2] at a2
          simp -implicitDefEqProofs [a1, a2, opt, cut3, t3])
  have e2 : (F.map fun i : Nat => PySem.PyData.int (i : Int)).map (fun x => cut3 (natOf x, (TL.getD (natOf x) none).getD 0, (TR.getD (natOf x) none).getD 0)) = (cutsL 0 TL TR).map cut3 := by
    rw [← hC, List.map_map, List.map_map]
    rfl
  rw [e2] at k2
  have lC := cutsL_len 0 TL TR
  generalize cutsL 0 TL TR = C at *
  have t3 : tupR (.ok [PySem.PyData.int (base.length : Int), .int (left.length : Int), .int (right.length : Int)]) = .ok (.d (cut3 (base.length, left.length, right.length))) := tupR_ok (by simp)
  have l1 : lstR (.ok [cut3 (base.length, left.length, right.length)]) = .ok (.own [cut3 (base.length, left.length, right.length)]) := lstR_ok (by simp)
  have a1 : addD (.own (C.map cut3)) (.own [cut3 (base.length, left.length, right.length)]) = .ok (.own ((C ++ [(base.length, left.length, right.length)]).map cut3)) := by
    rw [addD_own (by simp; omega), List.map_append]; rfl
  have l2 : (C ++ [(base.length, left.length, right.length)]).length ≤ 501 := by rw [List.length_append]; simp; omega
  generalize C ++ [(base.length, left.length, right.length)] = E at *
  have t0 : tupR (.ok []) = .ok (.d (.tuple (rowsOf []))) := tupR_ok (by decide)
  have t1 : tupR (.ok [PySem.PyData.int (-1), .int (-1), .int (-1)]) = .ok (.d (old3 0 0 0)) := tupR_ok (by decide)
  have run := due_loop (TL := .own (opts TL)) (TR := .own (opts TR)) (st := .own (F.map fun i : Nat => PySem.PyData.int (i : Int))) (cu := .d (.list (E.map cut3))) gb gl gr (by omega) E 0 0 0 [] .un .un .un (by simp; omega)
  unfold m_law_due runD g_law_due
  simp -implicitDefEqProofs at k1 k2
  simp -implicitDefEqProofs [startD, rows_len, p1, p2, r1, setR, k1, k2, t3, l1, a1, t0, t1]
  cases q : due base left right 0 0 0 [] E with
  | inr f =>
    rw [q] at run
    obtain ⟨x8, x9, x10, x11, hr⟩ := run
    simp -implicitDefEqProofs [hr, outcome]
  | inl p =>
    rw [q] at run
    have hr : _ = Out.rt (.d (.int (p : Int))) := run
    simp -implicitDefEqProofs [hr, outcome]
/-! ### the program's merge -/
section
variable {base left right : List Nat}
theorem merge_turn {TL TR : List (Option Nat)} {a0 a1 a2 i : Nat} {f : List Nat} {x8 x9 x10 : Cell} (hi : i ≤ base.length) (lL : TL.length = base.length) (lR : TR.length = base.length) (gb : Good base) (gl : Good left) (gr : Good right) (hf : f.length + left.length + right.length ≤ 16000000)
    {c1 c2 : Nat} (hc : if i < base.length then TL.getD i none = some c1 ∧ TR.getD i none = some c2 else c1 = left.length ∧ c2 = right.length) : ∃ y6 y8 y9 y10,
    turnD (.nm 7) l0_merge (.int (i : Int)) [.d (.tuple (rowsOf base)), .d (.tuple (rowsOf left)), .d (.tuple (rowsOf right)), .own (opts TL), .own (opts TR), .own (rowsOf f), .d (cut3 (a0, a1, a2)), x7, x8, x9, x10]
      = (match chunk (seg base a0 i) (seg left a1 c1) (seg right a2 c2) with
        | some ch => .nx [.d (.tuple (rowsOf base)), .d (.tuple (rowsOf left)), .d (.tuple (rowsOf right)), .own (opts TL), .own (opts TR), .own (rowsOf (f ++ ch ++ seg base i (i + 1))), y6, .d (.int (i : Int)), y8, y9, y10]
        | none => .ex (PySem.Str.ofString "Conflict") [(PySem.Str.ofString "place", .int (a0 : Int))] [.d (.tuple (rowsOf base)), .d (.tuple (rowsOf left)), .d (.tuple (rowsOf right)), .own (opts TL), .own (opts TR), .own (rowsOf f), .d (cut3 (a0, a1, a2)), .d (.int (i : Int)), y8, y9, y10]) ∧ (i < base.length → y6 = .d (cut3 (i + 1, c1 + 1, c2 + 1))) := by
  have o0 : idxD (.d (cut3 (a0, a1, a2))) (.d (.int 0)) = .ok (.d (.int (a0 : Int))) := rfl
  have o1 : idxD (.d (cut3 (a0, a1, a2))) (.d (.int 1)) = .ok (.d (.int (a1 : Int))) := rfl
  have o2 : idxD (.d (cut3 (a0, a1, a2))) (.d (.int 2)) = .ok (.d (.int (a2 : Int))) := rfl
  have k0 : idxD (.d (cut3 (i, c1, c2))) (.d (.int 0)) = .ok (.d (.int (i : Int))) := rfl
  have k1 : idxD (.d (cut3 (i, c1, c2))) (.d (.int 1)) = .ok (.d (.int (c1 : Int))) := rfl
  have k2 : idxD (.d (cut3 (i, c1, c2))) (.d (.int 2)) = .ok (.d (.int (c2 : Int))) := rfl
  have s0 : cutD (rowsOf base) (some (a0 : Int)) (some (i : Int)) = rowsOf (seg base a0 i) := rows_cut
  have s1 : cutD (rowsOf left) (some (a1 : Int)) (some (c1 : Int)) = rowsOf (seg left a1 c1) := rows_cut
  have s2 : cutD (rowsOf right) (some (a2 : Int)) (some (c2 : Int)) = rowsOf (seg right a2 c2) := rows_cut
  have ck := chosen_ok (o := seg base a0 i) (l := seg left a1 c1) (r := seg right a2 c2) (p := a0) (seg_good gb) (seg_good gl) (seg_good gr)
  have lch : ∀ ch, chunk (seg base a0 i) (seg left a1 c1) (seg right a2 c2) = some ch → ch.length ≤ left.length + right.length := fun ch q => by
    have lc := (chunk_good (seg_good gl) (seg_good gr) q).2
    have l1 := @seg_len left a1 c1
    have l2 := @seg_len right a2 c2
    omega
  have t3 : tupR (.ok [PySem.PyData.int (i : Int), .int (c1 : Int), .int (c2 : Int)]) = .ok (.d (cut3 (i, c1, c2))) := tupR_ok (by simp)
  have t4 : tupR (.ok [PySem.PyData.int ((i : Int) + 1), .int ((c1 : Int) + 1), .int ((c2 : Int) + 1)]) = .ok (.d (cut3 (i + 1, c1 + 1, c2 + 1))) := tupR_ok (by simp)
  generalize seg base a0 i = so at *
  generalize seg left a1 c1 = sl at *
  generalize seg right a2 c2 = sr at *
  by_cases hlt : i < base.length
  · rw [if_pos hlt] at hc
    obtain ⟨hc1, hc2⟩ := hc
    have b1 := opts_get (l := TL) (i := i) (by omega)
    have b2 := opts_get (l := TR) (i := i) (by omega)
    rw [hc1] at b1
    rw [hc2] at b2
    have ib := idx_rows hlt
    cases q : chunk so sl sr with
    | none =>
      rw [q] at ck
      refine ⟨.d (cut3 (i + 1, c1 + 1, c2 + 1)), .d (cut3 (i, c1, c2)), .d (.tuple (rowsOf so)), x10, ?_, fun _ => rfl⟩
      simp -implicitDefEqProofs [-List.getD_eq_getElem?_getD, -List.append_assoc, l0_merge, setR, rows_len, hlt, b1, b2, opt, o0, o1, o2, k0, k1, k2, s0, s1, s2, t3, ck, conflict]
    | some ch =>
      rw [q] at ck
      have a1 : addD (.own (rowsOf f)) (.own (rowsOf ch)) = .ok (.own (rowsOf (f ++ ch))) := rows_add (by have := lch ch q; omega)
      have a2 : rowsOf (f ++ ch) ++ [item (base.getD i 0)] = rowsOf (f ++ ch ++ seg base i (i + 1)) := by
        rw [seg_one hlt]
        unfold rowsOf
        simp
      have a3 : f.length + ch.length < 16777216 := by have := lch ch q; omega
      refine ⟨.d (cut3 (i + 1, c1 + 1, c2 + 1)), .d (cut3 (i, c1, c2)), .d (.tuple (rowsOf so)), .d (.tuple (rowsOf ch)), ?_, fun _ => rfl⟩
      simp -implicitDefEqProofs [-List.getD_eq_getElem?_getD, -List.append_assoc, l0_merge, setR, rows_len, hlt, b1, b2, opt, o0, o1, o2, k0, k1, k2, s0, s1, s2, t3, t4, ck, a1, a2, a3, ib]
  · rw [if_neg hlt] at hc
    obtain ⟨rfl, rfl⟩ := hc
    rw [seg_past (by omega)]
    have ei : i = base.length := by omega
    have hlt' : ¬ (i : Int) < (base.length : Int) := by omega
    cases q : chunk so sl sr with
    | none =>
      rw [q] at ck
      refine ⟨.un, .d (cut3 (i, left.length, right.length)), .d (.tuple (rowsOf so)), x10, ?_, fun h => absurd h hlt⟩
      simp -implicitDefEqProofs [-Int.not_lt, -List.getD_eq_getElem?_getD, -List.append_assoc, l0_merge, setR, rows_len, hlt, hlt', opt, o0, o1, o2, k0, k1, k2, s0, s1, s2, t3, ck, conflict]
    | some ch =>
      rw [q] at ck
      have b1 : addD (.own (rowsOf f)) (.own (rowsOf ch)) = .ok (.own (rowsOf (f ++ ch))) := rows_add (by have := lch ch q; omega)
      refine ⟨.d (cut3 (a0, a1, a2)), .d (cut3 (i, left.length, right.length)), .d (.tuple (rowsOf so)), .d (.tuple (rowsOf ch)), ?_, fun h => absurd h hlt⟩
      simp -implicitDefEqProofs [-Int.not_lt, -List.getD_eq_getElem?_getD, -List.append_assoc, l0_merge, setR, rows_len, hlt, hlt', opt, o0, o1, o2, k0, k1, k2, s0, s1, s2, t3, ck, b1]
theorem merge_skip {TL TR : List (Option Nat)} {i : Nat} {f : List Nat} {x6 x8 x9 x10 : Cell} (hi : i < base.length) (lL : TL.length = base.length) (lR : TR.length = base.length) (hc : both TL TR i = false) : ∃ y8,
    turnD (.nm 7) l0_merge (.int (i : Int)) [.d (.tuple (rowsOf base)), .d (.tuple (rowsOf left)), .d (.tuple (rowsOf right)), .own (opts TL), .own (opts TR), .own (rowsOf f), x6, x7, x8, x9, x10]
      = .nx [.d (.tuple (rowsOf base)), .d (.tuple (rowsOf left)), .d (.tuple (rowsOf right)), .own (opts TL), .own (opts TR), .own (rowsOf f), x6, .d (.int (i : Int)), y8, x9, x10] := by
  have b1 := opts_get (l := TL) (i := i) (by omega)
  have b2 := opts_get (l := TR) (i := i) (by omega)
  have v1 : Cell.val (.d (opt (TL.getD i none))) = .ok (.d (opt (TL.getD i none))) := rfl
  have t3 : tupR (.ok [PySem.PyData.int (i : Int), opt (TL.getD i none), opt (TR.getD i none)]) = .ok (.d (.tuple [.int (i : Int), opt (TL.getD i none), opt (TR.getD i none)])) := tupR_ok (by simp)
  have k1 : idxD (.d (.tuple [.int (i : Int), opt (TL.getD i none), opt (TR.getD i none)])) (.d (.int 1)) = .ok (.d (opt (TL.getD i none))) := rfl
  have k2 : idxD (.d (.tuple [.int (i : Int), opt (TL.getD i none), opt (TR.getD i none)])) (.d (.int 2)) = .ok (.d (opt (TR.getD i none))) := rfl
  refine ⟨.d (.tuple [.int (i : Int), opt (TL.getD i none), opt (TR.getD i none)]), ?_⟩
  unfold both at hc
  cases q1 : (TL.getD i none).isSome with
  | false => simp -implicitDefEqProofs [-List.getD_eq_getElem?_getD, l0_merge, setR, rows_len, hi, b1, b2, t3, k1, k2, notNone_opt, q1]
  | true =>
    rw [q1, Bool.true_and] at hc
    simp -implicitDefEqProofs [-List.getD_eq_getElem?_getD, l0_merge, setR, rows_len, hi, b1, b2, t3, k1, k2, notNone_opt, q1, hc]
end
theorem cutsL_skip {i : Nat} {x y : Option Nat} {l r : List (Option Nat)} (h : (x.isSome && y.isSome) = false) : cutsL i (x :: l) (y :: r) = cutsL (i + 1) l r := by
  cases x with
  | none => cases y <;> rfl
  | some a => cases y with
    | none => rfl
    | some b => cases h
theorem cutsL_cut {i a b : Nat} {l r : List (Option Nat)} : cutsL i (some a :: l) (some b :: r) = (i, a, b) :: cutsL (i + 1) l r := rfl
theorem forD_cons {g : D → Env → Out} {x : D} {xs : List D} {e : Env} : forD g (x :: xs) e = match g x e with | .nx e' => forD g xs e' | .ct e' => forD g xs e' | .bk e' => .nx e' | o => o := rfl
def mergeIs (TL TR : Cell) (base left right : List Nat) (o : Out) : Nat ⊕ List Nat → Prop
  | .inr f => ∃ x6 x7 x8 x9 x10, o = .nx [.d (.tuple (rowsOf base)), .d (.tuple (rowsOf left)), .d (.tuple (rowsOf right)), TL, TR, .own (rowsOf f), x6, x7, x8, x9, x10]
  | .inl p => ∃ e, o = .ex (PySem.Str.ofString "Conflict") [(PySem.Str.ofString "place", .int (p : Int))] e
theorem merge_loop {base left right : List Nat} {TL TR : List (Option Nat)} (lL : TL.length = base.length) (lR : TR.length = base.length) (gb : Good base) (gl : Good left) (gr : Good right) (h3 : left.length + right.length ≤ 2000) : ∀ (d i a0 a1 a2 : Nat) (f : List Nat) (x7 x8 x9 x10 : Cell), i + d = base.length → f.length + (d + 1) * 2001 ≤ 15990000 →
    mergeIs (.own (opts TL)) (.own (opts TR)) base left right (forD (turnD (.nm 7) l0_merge) ((List.range' i (d + 1)).map fun i : Nat => PySem.PyData.int (i : Int)) [.d (.tuple (rowsOf base)), .d (.tuple (rowsOf left)), .d (.tuple (rowsOf right)), .own (opts TL), .own (opts TR), .own (rowsOf f), .d (cut3 (a0, a1, a2)), x7, x8, x9, x10])
      (due base left right a0 a1 a2 f (cutsL i (TL.drop i) (TR.drop i) ++ [(base.length, left.length, right.length)])) := by
  intro d
  induction d with
  | zero =>
    intro i a0 a1 a2 f x7 x8 x9 x10 hi hf
    have fo : ∀ e, forD (turnD (.nm 7) l0_merge) ((List.range' i (0 + 1)).map fun i : Nat => PySem.PyData.int (i : Int)) e = match turnD (.nm 7) l0_merge (.int (i : Int)) e with | .nx e' => .nx e' | .ct e' => .nx e' | .bk e' => .nx e' | o => o := fun e => rfl
    rw [fo, List.drop_of_length_le (by omega), List.drop_of_length_le (by omega)]
    obtain ⟨y6, y8, y9, y10, h1, _⟩ := merge_turn (x7 := x7) (x8 := x8) (x9 := x9) (x10 := x10) (a0 := a0) (a1 := a1) (a2 := a2) (f := f) (i := i) (c1 := left.length) (c2 := right.length) (by omega) lL lR gb gl gr (by omega) (by rw [if_neg (by omega)]; exact ⟨rfl, rfl⟩)
    rw [h1]
    have un : due base left right a0 a1 a2 f (cutsL i [] [] ++ [(base.length, left.length, right.length)]) = match chunk (seg base a0 base.length) (seg left a1 left.length) (seg right a2 right.length) with | some ch => .inr (f ++ ch ++ seg base base.length (base.length + 1)) | none => .inl a0 := rfl
    rw [un, show i = base.length by omega]
    cases q : chunk (seg base a0 base.length) (seg left a1 left.length) (seg right a2 right.length) with
    | none => exact ⟨_, rfl⟩
    | some ch => exact ⟨_, _, _, _, _, rfl⟩
  | succ d ih =>
    intro i a0 a1 a2 f x7 x8 x9 x10 hi hf
    have e0 : (d + 1 + 1) * 2001 = (d + 1) * 2001 + 2001 := Nat.succ_mul (d + 1) 2001
    rw [e0] at hf
    clear e0
    obtain ⟨M, hM⟩ : ∃ M, M = (d + 1) * 2001 := ⟨_, rfl⟩
    rw [← hM] at hf
    have hx : i + 1 + d = base.length := by omega
    have hy : f.length + (d + 1) * 2001 ≤ 15990000 := by rw [← hM]; exact Nat.le_trans (by omega) hf
    have hy3 : f.length + left.length + right.length ≤ 16000000 := by clear hM; omega
    have hlM : ∀ ch sb : List Nat, ch.length ≤ 2000 → sb.length ≤ 1 → (f ++ ch ++ sb).length + (d + 1) * 2001 ≤ 15990000 := fun ch sb h1 h2 => by
      rw [← hM, List.length_append, List.length_append]
      clear hM
      omega
    clear hf hM
    have hlt : i < base.length := by omega
    have hl : i < TL.length := by omega
    have hr : i < TR.length := by omega
    have el : TL.getD i none = TL[i] := by rw [List.getD_eq_getElem?_getD, List.getElem?_eq_getElem hl]; rfl
    have er : TR.getD i none = TR[i] := by rw [List.getD_eq_getElem?_getD, List.getElem?_eq_getElem hr]; rfl
    rw [List.range'_succ, List.map_cons, forD_cons, List.drop_eq_getElem_cons hl, List.drop_eq_getElem_cons hr]
    have skip : both TL TR i = false → cutsL i (TL[i] :: TL.drop (i + 1)) (TR[i] :: TR.drop (i + 1)) = cutsL (i + 1) (TL.drop (i + 1)) (TR.drop (i + 1)) := fun hb => by
      unfold both at hb
      rw [el, er] at hb
      exact cutsL_skip hb
    cases hb : both TL TR i with
    | false =>
      obtain ⟨y8, h1⟩ := merge_skip (left := left) (right := right) (f := f) (x6 := .d (cut3 (a0, a1, a2))) (x7 := x7) (x8 := x8) (x9 := x9) (x10 := x10) hlt lL lR hb
      rw [h1, skip hb]
      have := ih (i + 1) a0 a1 a2 f (.d (.int (i : Int))) y8 x9 x10 hx hy
      simp only []
      exact this
    | true =>
      unfold both at hb
      obtain ⟨c1, q1⟩ := Option.isSome_iff_exists.mp (Bool.and_eq_true_iff.mp hb).1
      obtain ⟨c2, q2⟩ := Option.isSome_iff_exists.mp (Bool.and_eq_true_iff.mp hb).2
      obtain ⟨y6, y8, y9, y10, h1, h2⟩ := merge_turn (x7 := x7) (x8 := x8) (x9 := x9) (x10 := x10) (a0 := a0) (a1 := a1) (a2 := a2) (f := f) (i := i) (c1 := c1) (c2 := c2) (by omega) lL lR gb gl gr hy3 (by rw [if_pos hlt]; exact ⟨q1, q2⟩)
      rw [h1, h2 hlt, ← el, ← er, q1, q2]
      have un : due base left right a0 a1 a2 f (cutsL i (some c1 :: TL.drop (i + 1)) (some c2 :: TR.drop (i + 1)) ++ [(base.length, left.length, right.length)]) = match chunk (seg base a0 i) (seg left a1 c1) (seg right a2 c2) with | some ch => due base left right (i + 1) (c1 + 1) (c2 + 1) (f ++ ch ++ seg base i (i + 1)) (cutsL (i + 1) (TL.drop (i + 1)) (TR.drop (i + 1)) ++ [(base.length, left.length, right.length)]) | none => .inl a0 := by rw [cutsL_cut]; rfl
      rw [un]
      cases q : chunk (seg base a0 i) (seg left a1 c1) (seg right a2 c2) with
      | none => exact ⟨_, rfl⟩
      | some ch =>
        have lc := (chunk_good (seg_good gl) (seg_good gr) q).2
        have l1 := @seg_len left a1 c1
        have l2 := @seg_len right a2 c2
        have l3 : (seg base i (i + 1)).length ≤ 1 := by unfold seg; rw [List.length_take]; omega
        have hy := hlM ch (seg base i (i + 1)) (by clear hlM; omega) l3
        have := ih (i + 1) (i + 1) (c1 + 1) (c2 + 1) (f ++ ch ++ seg base i (i + 1)) (.d (.int (i : Int))) y8 y9 y10 hx hy
        simp only []
        exact this
theorem up_range (n : Nat) : upFrom 0 n = (List.range' 0 n).map fun i : Nat => PySem.PyData.int (i : Int) := by
  unfold upFrom
  rw [List.range_eq_range']
  exact List.map_congr_left fun i _ => by rw [Int.zero_add]
theorem merged_ok {base left right : List Nat} (hb : base.length ≤ 500) (hl : left.length ≤ 500) (hr : right.length ≤ 500) (gb : Good base) (gl : Good left) (gr : Good right) :
    m_law_merged [.tuple (rowsOf base), .tuple (rowsOf left), .tuple (rowsOf right)] = .ok (.d (outcome (merged base left right))) := by
  have p1 := partners_ok (by omega) (by omega) gb gl
  have p2 := partners_ok (by omega) (by omega) gb gr
  have lL := @mates_len base left
  have lR := @mates_len base right
  have r1 := rng1_nat (n := base.length + 1) (by omega)
  rw [show ((base.length + 1 : Nat) : Int) = (base.length : Int) + 1 from rfl, up_range] at r1
  unfold merged cuts
  generalize mates base left = TL at *
  generalize mates base right = TR at *
  have run := merge_loop lL lR gb gl gr (by omega) base.length 0 0 0 0 [] .un .un .un .un (by omega) (by simp; omega)
  rw [List.drop_zero, List.drop_zero] at run
  have t0 : tupR (.ok [PySem.PyData.int 0, .int 0, .int 0]) = .ok (.d (cut3 (0, 0, 0))) := tupR_ok (by decide)
  have l0 : lstR (.ok []) = .ok (.own (rowsOf [])) := lstR_ok (by decide)
  have hm : m_merge [.tuple (rowsOf base), .tuple (rowsOf left), .tuple (rowsOf right)] = match due base left right 0 0 0 [] (cutsL 0 TL TR ++ [(base.length, left.length, right.length)]) with | .inr f => .ok (.d (.tuple (rowsOf f))) | .inl p => conflict p := by
    unfold m_merge runD g_merge
    generalize List.map (fun i : Nat => PySem.PyData.int (i : Int)) (List.range' 0 (base.length + 1)) = RNG at *
    simp -implicitDefEqProofs [startD, rows_len, p1, p2, r1, setR, t0, l0]
    cases q : due base left right 0 0 0 [] (cutsL 0 TL TR ++ [(base.length, left.length, right.length)]) with
    | inr f =>
      rw [q] at run
      obtain ⟨x6, x7, x8, x9, x10, hr⟩ := run
      simp -implicitDefEqProofs [hr]
    | inl p =>
      rw [q] at run
      obtain ⟨e, hr⟩ := run
      simp -implicitDefEqProofs [hr, conflict]
  unfold m_law_merged runD g_law_merged
  simp -implicitDefEqProofs [startD, hm]
  cases q : due base left right 0 0 0 [] (cutsL 0 TL TR ++ [(base.length, left.length, right.length)]) with
  | inr f => simp -implicitDefEqProofs [outcome, tryF]
  | inl p => simp -implicitDefEqProofs [outcome, tryF, conflict]
end K92
namespace K92
open DL L2
/-! ### a value is alike itself -/
mutual
def slim : D → Bool
  | .none | .bool _ | .int _ | .str _ => true
  | .list xs => decide (xs.length ≤ 100000) && slimAll xs
  | .tuple xs => decide (xs.length ≤ 100000) && slimAll xs
  | .dict _ => false
def slimAll : List D → Bool
  | [] => true
  | x :: xs => slim x && slimAll xs
end
theorem slim_mem : ∀ (xs : List D) (x : D), slimAll xs = true → x ∈ xs → slim x = true
  | y :: r, x, h, hx => by
    have h' := Bool.and_eq_true_iff.mp (show (slim y && slimAll r) = true from h)
    rcases List.mem_cons.mp hx with rfl | hx'
    · exact h'.1
    · exact slim_mem r x h'.2 hx'
theorem leaf_eq {x : D} (h : x.canLay0 = true) (h2 : x.depth = 0) : eqD (.d x) (.d x) = .ok (.d (.bool true)) := by
  have hs : PySem.SeqAt.shaped x = true := by
    unfold PySem.SeqAt.shaped
    rw [h, h2]; rfl
  rw [eqD_ok hs hs, PySem.SeqAt.eqv_refl x h]
theorem len_ne {n : Nat} : neD (.d (.int (n : Int))) (.d (.int (n : Int))) = .ok (.d (.bool false)) := by
  rw [neD_ok rfl rfl, PySem.SeqAt.eqv_refl _ rfl]; rfl
theorem alike_items {rec : List D → R Cell} {xs : List D} {c0 c1 : Cell} {x2 : Cell} (hi : ∀ (i : Nat) (x : D), xs[i]? = some x → idxD c0 (.d (.int (i : Int))) = .ok (.d x) ∧ idxD c1 (.d (.int (i : Int))) = .ok (.d x)) (hr : ∀ x ∈ xs, rec [x, x] = .ok (.d (.bool true)))
    (h0 : c0 ≠ .un) (h1 : c1 ≠ .un) : ∃ y2, forD (turnD (.nm 2) (l0_law_alike rec)) (upFrom 0 xs.length) [c0, c1, x2] = .nx [c0, c1, y2] := by
  have g0 : ∀ e, getC 0 (c0 :: e) = .ok c0 := fun e => by cases c0 <;> first | rfl | exact absurd rfl h0
  have g1 : ∀ e, getC 0 (c1 :: e) = .ok c1 := fun e => by cases c1 <;> first | rfl | exact absurd rfl h1
  obtain ⟨e', f1, f2⟩ := forD_ind (g := turnD (.nm 2) (l0_law_alike rec)) (xs := upFrom 0 xs.length) (e := [c0, c1, x2]) (P := fun i e => ∃ y2, e = [c0, c1, y2]) ⟨x2, rfl⟩ (fun i x e hx hP => by
    obtain ⟨y2, rfl⟩ := hP
    obtain ⟨li, rfl⟩ := upz_get hx
    have hx' : xs[i]? = some xs[i] := List.getElem?_eq_getElem li
    obtain ⟨j0, j1⟩ := hi i _ hx'
    have hr' := hr _ (List.getElem_mem li)
    refine ⟨[c0, c1, .d (.int (i : Int))], ?_, _, rfl⟩
    simp -implicitDefEqProofs [l0_law_alike, g0, g1, j0, j1, hr'])
  obtain ⟨y2, rfl⟩ := f2
  exact ⟨y2, f1⟩
theorem alike_same : ∀ (n : Nat) (x : D), x.canLay0 = true → slim x = true → x.depth < n → m_law_alike n [x, x] = .ok (.d (.bool true)) := by
  intro n
  induction n with
  | zero => exact fun x _ _ h => absurd h (Nat.not_lt_zero _)
  | succ n ih =>
    intro x hc hs hd
    show runD 3 2 (g_law_alike (m_law_alike n)) [x, x] = _
    unfold runD g_law_alike
    cases x with
    | none => simp -implicitDefEqProofs [startD]
    | bool b => simp -implicitDefEqProofs [startD, isiD, leaf_eq hc rfl]
    | int i => simp -implicitDefEqProofs [startD, isiD, leaf_eq hc rfl]
    | str s => simp -implicitDefEqProofs [startD, isiD, leaf_eq hc rfl]
    | dict kvs => exact absurd hc (by intro h; cases h)
    | list xs =>
      have hs' := Bool.and_eq_true_iff.mp (show (decide (xs.length ≤ 100000) && slimAll xs) = true from hs)
      have hl := of_decide_eq_true hs'.1
      have hd' : PySem.PyData.depthAll xs + 1 < n + 1 := hd
      obtain ⟨y2, hf⟩ := alike_items (rec := m_law_alike n) (xs := xs) (c0 := .d (.list xs)) (c1 := .d (.list xs)) (x2 := .un) (fun i x h => ⟨idx_list h, idx_list h⟩) (fun x hx => ih x (PySem.PyData.canLay0_of_mem xs x hc hx) (slim_mem xs x hs'.2 hx) (by have := PySem.PyData.depth_le_depthAll xs x hx; omega)) (by intro h; cases h) (by intro h; cases h)
      have r1 := rng1_nat (n := xs.length) (by omega)
      simp -implicitDefEqProofs [startD, isiD, len_ne, r1, hf]
    | tuple xs =>
      have hs' := Bool.and_eq_true_iff.mp (show (decide (xs.length ≤ 100000) && slimAll xs) = true from hs)
      have hl := of_decide_eq_true hs'.1
      have hd' : PySem.PyData.depthAll xs + 1 < n + 1 := hd
      obtain ⟨y2, hf⟩ := alike_items (rec := m_law_alike n) (xs := xs) (c0 := .d (.tuple xs)) (c1 := .d (.tuple xs)) (x2 := .un) (fun i x h => ⟨idx_tuple h, idx_tuple h⟩) (fun x hx => ih x (PySem.PyData.canLay0_of_mem xs x hc hx) (slim_mem xs x hs'.2 hx) (by have := PySem.PyData.depth_le_depthAll xs x hx; omega)) (by intro h; cases h) (by intro h; cases h)
      have r1 := rng1_nat (n := xs.length) (by omega)
      simp -implicitDefEqProofs [startD, isiD, len_ne, r1, hf]
theorem slim_rows {ts : List Nat} (h : Good ts) : slimAll (rowsOf ts) = true ∧ PySem.PyData.canLayAll0 (rowsOf ts) = true ∧ PySem.PyData.depthAll (rowsOf ts) ≤ 9 := by
  induction ts with
  | nil => exact ⟨rfl, rfl, by decide⟩
  | cons t ts ih =>
    obtain ⟨h1, h2, h3⟩ := ih fun x hx => h x (List.mem_cons_of_mem _ hx)
    have k : ∀ i < 8, slim (item i) = true ∧ (item i).canLay0 = true ∧ (item i).depth ≤ 9 := by decide +kernel
    obtain ⟨k1, k2, k3⟩ := k t (h t List.mem_cons_self)
    refine ⟨?_, ?_, ?_⟩
    · show (slim (item t) && slimAll (rowsOf ts)) = true
      rw [k1, h1]; rfl
    · show ((item t).canLay0 && PySem.PyData.canLayAll0 (rowsOf ts)) = true
      rw [k2, h2]; rfl
    · show max (item t).depth (PySem.PyData.depthAll (rowsOf ts)) ≤ 9
      omega
theorem tree_alike {ts : List Nat} (h : Good ts) (hl : ts.length ≤ 1000) : m_law_alike 12 [.tuple (rowsOf ts), .tuple (rowsOf ts)] = .ok (.d (.bool true)) := by
  obtain ⟨h1, h2, h3⟩ := slim_rows h
  refine alike_same 12 _ h2 ?_ ?_
  · show (decide ((rowsOf ts).length ≤ 100000) && slimAll (rowsOf ts)) = true
    rw [h1, rows_len, decide_eq_true (by omega)]; rfl
  · show PySem.PyData.depthAll (rowsOf ts) + 1 < 12
    omega
theorem int_alike {i : Int} : m_law_alike 12 [.int i, .int i] = .ok (.d (.bool true)) := alike_same 12 _ rfl rfl (by show 0 < 12; decide)
/-! ### the three plain cases -/
def Up (ts us : List Nat) : Nat → Nat → List (Option Nat) → Prop
  | i, j, [] => i = ts.length ∧ j ≤ us.length
  | i, j, none :: l => i < ts.length ∧ Up ts us (i + 1) j l
  | i, j, some q :: l => i < ts.length ∧ j ≤ q ∧ q < us.length ∧ ts.getD i 0 = us.getD q 0 ∧ Up ts us (i + 1) (q + 1) l
theorem Up.mono {ts us : List Nat} : ∀ {l : List (Option Nat)} {i j k : Nat}, Up ts us i j l → k ≤ j → Up ts us i k l
  | [], i, j, k, h, hk => ⟨h.1, Nat.le_trans hk h.2⟩
  | none :: l, i, j, k, h, hk => ⟨h.1, Up.mono (l := l) h.2 hk⟩
  | some q :: l, i, j, k, h, hk => ⟨h.1, Nat.le_trans hk h.2.1, h.2.2⟩
theorem up_none {ts us : List Nat} {j : Nat} (hj : j ≤ us.length) : ∀ (d i : Nat), i + d = ts.length → Up ts us i j (List.replicate d none)
  | 0, i, h => ⟨h, hj⟩
  | d + 1, i, h => ⟨by omega, up_none hj d (i + 1) (by omega)⟩
theorem pick_up (ts us : List Nat) (adv : Nat → Nat → Bool) : ∀ (m i j : Nat), (ts.length - i) + (us.length - j) ≤ m → i ≤ ts.length → j ≤ us.length → Up ts us i j (pick ts us adv i j) := by
  intro m
  induction m with
  | zero =>
    intro i j h hi hj
    rw [pick_end (by omega)]
    exact up_none hj _ i (by omega)
  | succ m ih =>
    intro i j h hi hj
    by_cases hh : i < ts.length ∧ j < us.length
    · by_cases q : ts.getD i 0 = us.getD j 0
      · rw [pick_same hh.1 hh.2 q]
        exact ⟨hh.1, Nat.le_refl _, hh.2, q, ih _ _ (by omega) (by omega) (by omega)⟩
      · by_cases ha : adv i j = true
        · rw [pick_adv hh.1 hh.2 q ha]
          exact ⟨hh.1, ih _ _ (by omega) (by omega) (by omega)⟩
        · rw [pick_skip hh.1 hh.2 q ha]
          exact (ih i (j + 1) (by omega) (by omega) (by omega)).mono (Nat.le_succ j)
    · rw [pick_end hh]
      exact up_none hj _ i (by omega)
theorem mates_up {ts us : List Nat} : Up ts us 0 0 (mates ts us) := pick_up ts us _ _ 0 0 (Nat.le_refl _) (Nat.zero_le _) (Nat.zero_le _)
def ident (n : Nat) : Nat → Nat → List (Option Nat)
  | _, 0 => []
  | i, d + 1 => some i :: ident n (i + 1) d
theorem pick_same_tree {ts : List Nat} {adv : Nat → Nat → Bool} : ∀ (d i : Nat), i + d = ts.length → pick ts ts adv i i = ident ts.length i d
  | 0, i, h => by
    rw [pick_end (by omega), show ts.length - i = 0 by omega]; rfl
  | d + 1, i, h => by
    rw [pick_same (by omega) (by omega) rfl, pick_same_tree d (i + 1) (by omega)]; rfl
theorem mates_self {ts : List Nat} : mates ts ts = ident ts.length 0 ts.length := pick_same_tree ts.length 0 (by omega)
theorem seg_cat {xs : List Nat} {a b c : Nat} (h1 : a ≤ b) (h2 : b ≤ c) : seg xs a b ++ seg xs b c = seg xs a c := by
  unfold seg
  rw [show c - a = (b - a) + (c - b) by omega, List.take_add, List.drop_drop, show a + (b - a) = b by omega]
theorem seg_eq {xs ys : List Nat} {i j : Nat} (hi : i < xs.length) (hj : j < ys.length) (h : xs.getD i 0 = ys.getD j 0) : seg xs i (i + 1) = seg ys j (j + 1) := by
  rw [seg_one hi, seg_one hj, h]
theorem chunk_l {o r : List Nat} : chunk o o r = some r := if_pos rfl
theorem chunk_r {o l : List Nat} : chunk o l o = some l := by
  unfold chunk
  by_cases h : l = o
  · rw [if_pos h, h]
  · rw [if_neg h, if_pos (.inl rfl)]
theorem chunk_s {o l : List Nat} : chunk o l l = some l := by
  unfold chunk
  by_cases h : l = o
  · rw [if_pos h]
  · rw [if_neg h, if_pos (.inr rfl)]
/-- base, base, right -/
theorem due_left {base right : List Nat} : ∀ (d i a0 a2 : Nat) (f : List Nat) (R : List (Option Nat)), i + d = base.length → a0 ≤ i → Up base right i a2 R → f = seg right 0 a2 →
    due base base right a0 a0 a2 f (cutsL i (ident base.length i d) R ++ [(base.length, base.length, right.length)]) = .inr right := by
  intro d
  induction d with
  | zero =>
    intro i a0 a2 f R hi ha hu hf
    have hR : cutsL i (ident base.length i 0) R = [] := by cases R <;> rfl
    rw [hR]
    have ha2 : a2 ≤ right.length := by
      have : R.length = 0 ∨ 0 < R.length := by omega
      cases R with
      | nil => exact hu.2
      | cons x R => cases x with
        | none => exact absurd hu.1 (by omega)
        | some q => exact absurd hu.1 (by omega)
    show (match chunk (seg base a0 base.length) (seg base a0 base.length) (seg right a2 right.length) with | some ch => Sum.inr (f ++ ch ++ seg base base.length (base.length + 1)) | none => .inl a0) = _
    rw [chunk_l]
    show Sum.inr (f ++ seg right a2 right.length ++ seg base base.length (base.length + 1)) = _
    rw [seg_past (Nat.le_refl _), List.append_nil, hf, seg_cat (Nat.zero_le _) ha2]
    unfold seg
    rw [List.drop_zero, Nat.sub_zero, List.take_length]
  | succ d ih =>
    intro i a0 a2 f R hi ha hu hf
    cases R with
    | nil => exact absurd hu.1 (by omega)
    | cons x R => cases x with
      | none => exact ih (i + 1) a0 a2 f R (by omega) (by omega) hu.2 hf
      | some q =>
        obtain ⟨h1, h2, h3, h4, h5⟩ := hu
        show (match chunk (seg base a0 i) (seg base a0 i) (seg right a2 q) with | some ch => due base base right (i + 1) (i + 1) (q + 1) (f ++ ch ++ seg base i (i + 1)) (cutsL (i + 1) (ident base.length (i + 1) d) R ++ [(base.length, base.length, right.length)]) | none => .inl a0) = _
        rw [chunk_l]
        refine ih (i + 1) (i + 1) (q + 1) _ R (by omega) (Nat.le_refl _) h5 ?_
        rw [hf, seg_cat (Nat.zero_le _) h2, seg_eq h1 h3 h4, seg_cat (Nat.zero_le _) (Nat.le_succ q)]
theorem merged_left {base right : List Nat} : merged base base right = .inr right := by
  unfold merged cuts
  rw [mates_self]
  exact due_left base.length 0 0 0 [] _ (by omega) (Nat.le_refl _) mates_up rfl
/-- base, left, base -/
theorem due_right {base left : List Nat} : ∀ (d i a0 a1 : Nat) (f : List Nat) (L : List (Option Nat)), i + d = base.length → a0 ≤ i → Up base left i a1 L → f = seg left 0 a1 →
    due base left base a0 a1 a0 f (cutsL i L (ident base.length i d) ++ [(base.length, left.length, base.length)]) = .inr left := by
  intro d
  induction d with
  | zero =>
    intro i a0 a1 f L hi ha hu hf
    have hR : cutsL i L (ident base.length i 0) = [] := by
      cases L with
      | nil => rfl
      | cons x L => cases x <;> rfl
    rw [hR]
    have ha2 : a1 ≤ left.length := by
      cases L with
      | nil => exact hu.2
      | cons x R => cases x with
        | none => exact absurd hu.1 (by omega)
        | some q => exact absurd hu.1 (by omega)
    show (match chunk (seg base a0 base.length) (seg left a1 left.length) (seg base a0 base.length) with | some ch => Sum.inr (f ++ ch ++ seg base base.length (base.length + 1)) | none => .inl a0) = _
    rw [chunk_r]
    show Sum.inr (f ++ seg left a1 left.length ++ seg base base.length (base.length + 1)) = _
    rw [seg_past (Nat.le_refl _), List.append_nil, hf, seg_cat (Nat.zero_le _) ha2]
    unfold seg
    rw [List.drop_zero, Nat.sub_zero, List.take_length]
  | succ d ih =>
    intro i a0 a1 f L hi ha hu hf
    cases L with
    | nil => exact absurd hu.1 (by omega)
    | cons x L => cases x with
      | none => exact ih (i + 1) a0 a1 f L (by omega) (by omega) hu.2 hf
      | some q =>
        obtain ⟨h1, h2, h3, h4, h5⟩ := hu
        show (match chunk (seg base a0 i) (seg left a1 q) (seg base a0 i) with | some ch => due base left base (i + 1) (q + 1) (i + 1) (f ++ ch ++ seg base i (i + 1)) (cutsL (i + 1) L (ident base.length (i + 1) d) ++ [(base.length, left.length, base.length)]) | none => .inl a0) = _
        rw [chunk_r]
        refine ih (i + 1) (i + 1) (q + 1) _ L (by omega) (Nat.le_refl _) h5 ?_
        rw [hf, seg_cat (Nat.zero_le _) h2, seg_eq h1 h3 h4, seg_cat (Nat.zero_le _) (Nat.le_succ q)]
theorem merged_right {base left : List Nat} : merged base left base = .inr left := by
  unfold merged cuts
  rw [mates_self]
  exact due_right base.length 0 0 0 [] _ (by omega) (Nat.le_refl _) mates_up rfl
/-- base, left, left -/
theorem due_same {base left : List Nat} : ∀ (d i a0 a1 : Nat) (f : List Nat) (L : List (Option Nat)), L.length = d → i + d = base.length → a0 ≤ i → Up base left i a1 L → f = seg left 0 a1 →
    due base left left a0 a1 a1 f (cutsL i L L ++ [(base.length, left.length, left.length)]) = .inr left := by
  intro d
  induction d with
  | zero =>
    intro i a0 a1 f L hd hi ha hu hf
    cases L with
    | cons x L => cases hd
    | nil =>
      have ha2 : a1 ≤ left.length := hu.2
      show (match chunk (seg base a0 base.length) (seg left a1 left.length) (seg left a1 left.length) with | some ch => Sum.inr (f ++ ch ++ seg base base.length (base.length + 1)) | none => .inl a0) = _
      rw [chunk_s]
      show Sum.inr (f ++ seg left a1 left.length ++ seg base base.length (base.length + 1)) = _
      rw [seg_past (Nat.le_refl _), List.append_nil, hf, seg_cat (Nat.zero_le _) ha2]
      unfold seg
      rw [List.drop_zero, Nat.sub_zero, List.take_length]
  | succ d ih =>
    intro i a0 a1 f L hd hi ha hu hf
    cases L with
    | nil => cases hd
    | cons x L =>
      have hd' : L.length = d := by simpa using hd
      cases x with
      | none => exact ih (i + 1) a0 a1 f L hd' (by omega) (by omega) hu.2 hf
      | some q =>
        obtain ⟨h1, h2, h3, h4, h5⟩ := hu
        show (match chunk (seg base a0 i) (seg left a1 q) (seg left a1 q) with | some ch => due base left left (i + 1) (q + 1) (q + 1) (f ++ ch ++ seg base i (i + 1)) (cutsL (i + 1) L L ++ [(base.length, left.length, left.length)]) | none => .inl a0) = _
        rw [chunk_s]
        refine ih (i + 1) (i + 1) (q + 1) _ L hd' (by omega) (Nat.le_refl _) h5 ?_
        rw [hf, seg_cat (Nat.zero_le _) h2, seg_eq h1 h3 h4, seg_cat (Nat.zero_le _) (Nat.le_succ q)]
theorem merged_same {base left : List Nat} : merged base left left = .inr left := by
  unfold merged cuts
  exact due_same base.length 0 0 0 [] _ mates_len (by omega) (Nat.le_refl _) mates_up rfl
end K92
namespace K92
open DL L2
theorem merged_good {base left right : List Nat} (gb : Good base) (gl : Good left) (gr : Good right) : ∀ (cs : List (Nat × Nat × Nat)) (a0 a1 a2 : Nat) (f : List Nat), Good f → ∀ r, due base left right a0 a1 a2 f cs = .inr r → Good r
  | [], a0, a1, a2, f, hf, r, h => by cases h; exact hf
  | (c0, c1, c2) :: cs, a0, a1, a2, f, hf, r, h => by
    have un : due base left right a0 a1 a2 f ((c0, c1, c2) :: cs) = match chunk (seg base a0 c0) (seg left a1 c1) (seg right a2 c2) with | some ch => due base left right (c0 + 1) (c1 + 1) (c2 + 1) (f ++ ch ++ seg base c0 (c0 + 1)) cs | none => .inl a0 := rfl
    rw [un] at h
    cases q : chunk (seg base a0 c0) (seg left a1 c1) (seg right a2 c2) with
    | none => rw [q] at h; cases h
    | some ch =>
      rw [q] at h
      have gc := (chunk_good (seg_good gl) (seg_good gr) q).1
      refine merged_good gb gl gr cs _ _ _ _ ?_ r h
      intro t ht
      rcases List.mem_append.mp ht with ht | ht
      · rcases List.mem_append.mp ht with ht | ht
        · exact hf t ht
        · exact gc t ht
      · exact seg_good gb t ht
theorem due_len {base left right : List Nat} : ∀ (cs : List (Nat × Nat × Nat)) (a0 a1 a2 : Nat) (f : List Nat) (r : List Nat), due base left right a0 a1 a2 f cs = .inr r → Good left → Good right → r.length ≤ f.length + cs.length * (left.length + right.length + 1)
  | [], a0, a1, a2, f, r, h, _, _ => by cases h; omega
  | (c0, c1, c2) :: cs, a0, a1, a2, f, r, h, gl, gr => by
    have un : due base left right a0 a1 a2 f ((c0, c1, c2) :: cs) = match chunk (seg base a0 c0) (seg left a1 c1) (seg right a2 c2) with | some ch => due base left right (c0 + 1) (c1 + 1) (c2 + 1) (f ++ ch ++ seg base c0 (c0 + 1)) cs | none => .inl a0 := rfl
    rw [un] at h
    cases q : chunk (seg base a0 c0) (seg left a1 c1) (seg right a2 c2) with
    | none => rw [q] at h; cases h
    | some ch =>
      rw [q] at h
      have lc := (chunk_good (seg_good gl) (seg_good gr) q).2
      have l1 := @seg_len left a1 c1
      have l2 := @seg_len right a2 c2
      have l3 : (seg base c0 (c0 + 1)).length ≤ 1 := by unfold seg; rw [List.length_take]; omega
      have ih := due_len cs (c0 + 1) (c1 + 1) (c2 + 1) (f ++ ch ++ seg base c0 (c0 + 1)) r h gl gr
      rw [List.length_append, List.length_append] at ih
      rw [List.length_cons, Nat.succ_mul]
      omega
theorem merged_alike {base left right : List Nat} (hb : base.length ≤ 14) (hl : left.length ≤ 14) (hr : right.length ≤ 14) (gb : Good base) (gl : Good left) (gr : Good right) : m_law_alike 12 [outcome (merged base left right), outcome (merged base left right)] = .ok (.d (.bool true)) := by
  cases q : merged base left right with
  | inl p => exact int_alike
  | inr r =>
    refine tree_alike (merged_good gb gl gr _ _ _ _ _ (by intro t ht; cases ht) r q) ?_
    have h1 := due_len _ _ _ _ _ r q gl gr
    have h2 : (cuts base left right).length ≤ 15 := by
      unfold cuts
      rw [List.length_append]
      have := cutsL_len 0 (mates base left) (mates base right)
      rw [mates_len] at this
      simp; omega
    have h3 : (cuts base left right).length * (left.length + right.length + 1) ≤ 15 * 29 := Nat.mul_le_mul h2 (by omega)
    simp at h1
    omega
theorem law_true (ns : List Int) (h : ns.length ≤ 63) : m_law [.list (ns.map PySem.PyData.int)] = .ok (.d (.bool true)) := by
  obtain ⟨base, tb, gb, lb⟩ := some_tree_ok ns
  obtain ⟨left, tl, gl, ll⟩ := item_near ns 1 (by decide) (by decide) base gb (by omega)
  obtain ⟨r1, t1, g1, l1⟩ := item_near ns 6 (by decide) (by decide) base gb (by omega)
  obtain ⟨r2, t2, g2, l2⟩ := item_near ns 6 (by decide) (by decide) left gl (by omega)
  obtain ⟨ds, hd, hbl⟩ := draw_any ns 11 [4] (by decide) (by decide) (by decide) (by intro s hs; rw [List.mem_singleton.mp hs]; decide)
  obtain ⟨n, hn, ln⟩ := below_get hbl (i := 0) (s := 4) rfl
  have i0 : idxD (.own (ds.map PySem.PyData.int)) (.d (.int 0)) = .ok (.d (.int (n : Int))) := draw_get (i := 0) hn
  have l4 : lstR (.ok [PySem.PyData.int 4]) = .ok (.own [.int 4]) := lstR_ok (by decide)
  have main : ∀ right : List Nat, Good right → right.length ≤ 14 → m_law_alike 12 [outcome (merged base left right), outcome (merged base left right)] = .ok (.d (.bool true)) ∧ m_law_alike 12 [.tuple (rowsOf right), .tuple (rowsOf right)] = .ok (.d (.bool true)) ∧ m_law_merged [.tuple (rowsOf base), .tuple (rowsOf left), .tuple (rowsOf right)] = .ok (.d (outcome (merged base left right)))
      ∧ m_law_due [.tuple (rowsOf base), .tuple (rowsOf left), .tuple (rowsOf right)] = .ok (.d (outcome (merged base left right))) ∧ m_law_merged [.tuple (rowsOf base), .tuple (rowsOf base), .tuple (rowsOf right)] = .ok (.d (.tuple (rowsOf right))) := fun right gr lr =>
    ⟨merged_alike (by omega) (by omega) lr gb gl gr, tree_alike gr (by omega), merged_ok (by omega) (by omega) (by omega) gb gl gr, law_due_ok (by omega) (by omega) (by omega) gb gl gr, by rw [merged_ok (by omega) (by omega) (by omega) gb gb gr, merged_left]; rfl⟩
  have a3 : m_law_merged [.tuple (rowsOf base), .tuple (rowsOf left), .tuple (rowsOf base)] = .ok (.d (.tuple (rowsOf left))) := by rw [merged_ok (by omega) (by omega) (by omega) gb gl gb, merged_right]; rfl
  have a4 : m_law_merged [.tuple (rowsOf base), .tuple (rowsOf left), .tuple (rowsOf left)] = .ok (.d (.tuple (rowsOf left))) := by rw [merged_ok (by omega) (by omega) (by omega) gb gl gl, merged_same]; rfl
  have a5 := tree_alike gl (by omega)
  have hq : eqD (.d (.int (n : Int))) (.d (.int 0)) = .ok (.d (.bool (decide (n = 0)))) := by
    have e : PySem.PyData.eqv (.int (n : Int)) (.int 0) = decide (n = 0) := by
      rw [PySem.PyData.eqv]
      cases n with
      | zero => rfl
      | succ m =>
        rw [decide_eq_false (Nat.succ_ne_zero m)]
        exact beq_eq_false_iff_ne.mpr (by omega)
    rw [eqD_ok rfl rfl, e]
  unfold m_law runD g_law
  simp at hd
  by_cases hz : n = 0
  · obtain ⟨b1, b2, b3, b4, b5⟩ := main r2 g2 (by omega)
    rw [decide_eq_true hz] at hq
    simp -implicitDefEqProofs [startD, setR, tb, tl, t1, t2, l4, hd, i0, hq, b1, b2, b3, b4, b5, a3, a4, a5]
  · obtain ⟨b1, b2, b3, b4, b5⟩ := main r1 g1 (by omega)
    rw [decide_eq_false hz] at hq
    simp -implicitDefEqProofs [startD, setR, tb, tl, t1, l4, hd, i0, hq, b1, b2, b3, b4, b5, a3, a4, a5]
end K92
namespace K92
open PySem PySem.Spec PyProof.Rows L2 DL
def topS (i : Nat) : Stmt := PySem.Challenge.pw_wardenworks_k92_merged_trees.main.body.getD i (.Pass ⟨0, 0, 0, 0⟩)
/-- a def of the text -/
structure Df (K : PySem.W.Frag) (mg : Str → Option Value) (x : Str) (i : Nat) (ps : List Str) where
  f : Addr
  fd : FuncData
  F : Fun K x x (topS i) f fd
  g : mg x = some (.ref f)
  b : Binds K fd ps []
/-- what the top has left of the built-ins -/
structure Txt (K : PySem.W.Frag) (mg : Str → Option Value) : Prop where
  n_bool : mg "bool" = none
  n_int : mg "int" = none
  n_isinstance : mg "isinstance" = none
  n_len : mg "len" = none
  n_list : mg "list" = none
  n_max : mg "max" = none
  n_range : mg "range" = none
  n_reversed : mg "reversed" = none
  n_str : mg "str" = none
  n_tuple : mg "tuple" = none
  x_Conflict : Exc1 K mg "Conflict" "place" (inClass (topS 2) 0)
structure All (K : PySem.W.Frag) (mg : Str → Option Value) where
  d_law_cell : Df K mg "_law_cell" 12 ["script", "k"]
  d_law_draw : Df K mg "_law_draw" 13 ["script", "k", "sizes"]
  d_law_pool : Df K mg "_law_pool" 11 []
  d_law_some_tree : Df K mg "_law_some_tree" 14 ["script", "k", "wide"]
  d_law_near_tree : Df K mg "_law_near_tree" 15 ["script", "k", "tree"]
  d_law_alike : Df K mg "_law_alike" 16 ["actual", "expected"]
  d_law_table_of : Df K mg "_law_table_of" 9 ["tree", "other"]
  d_law_partners : Df K mg "_law_partners" 10 ["tree", "other"]
  d_law_due : Df K mg "_law_due" 17 ["base", "left", "right"]
  d_common_lengths : Df K mg "common_lengths" 4 ["tree", "other"]
  d_partners_of : Df K mg "partners_of" 5 ["tree", "other"]
  d_chosen_chunk : Df K mg "chosen_chunk" 6 ["base", "left", "right", "place"]
  d_merge : Df K mg "merge" 7 ["base", "left", "right"]
  d_law_merged : Df K mg "_law_merged" 18 ["base", "left", "right"]
  d_law : Df K mg "law" 19 ["script"]
section
variable {P : Program} {w : World} {K : PySem.W.Frag} {mg : Str → Option Value} {base : Heap}
theorem sc_law_cell : FnScope ["script", "k"] ["script", "k"] (defScope (topS 12)) := ⟨rfl, rfl, rfl, by decide +kernel, rfl, by decide +kernel, by decide +kernel⟩
theorem ok_law_cell (T : Txt K mg) (D : All K mg) : FnOk P w K mg base (L2.CX P w) 1 D.d_law_cell.f D.d_law_cell.fd ["script", "k"] (spD K mg 2 m_law_cell) := fnD (k := 0) (N := ["script", "k"]) (ps := ["script", "k"]) (gb := g_law_cell) D.d_law_cell.F sc_law_cell fun cdv A outer s H E hr => by
  have sc := sc_law_cell
  have tk : Takes (cxOf (L2.CX P w) P w K mg base ["script", "k"] "_law_cell" (defScope (topS 12)) D.d_law_cell.f cdv A outer s H E) (fun cls d _ H => E cls d H) := takes_of rfl rfl rfl rfl
  have PO : PassesOwn (model P w) (cxOf (L2.CX P w) P w K mg base ["script", "k"] "_law_cell" (defScope (topS 12)) D.d_law_cell.f cdv A outer s H E).A (cxOf (L2.CX P w) P w K mg base ["script", "k"] "_law_cell" (defScope (topS 12)) D.d_law_cell.f cdv A outer s H E).env (cxOf (L2.CX P w) P w K mg base ["script", "k"] "_law_cell" (defScope (topS 12)) D.d_law_cell.f cdv A outer s H E).xe := passes_of rfl
  exact (ds_cons (ds_if (dt_cmp op_lt op2_intB (dp_var 1) (dp_of (de_len T.n_len (dp_var 0))) (nomark _)) (ds_one (ds_ret (de_of (dp_ix (dp_var 0) (dp_var 1))))) ds_nil) (ds_one (ds_ret de_int)))
theorem sc_law_draw : FnScope ["script", "k", "sizes", "cell", "drawn", "mixed", "j", "size"] ["script", "k", "sizes"] (defScope (topS 13)) := ⟨rfl, rfl, rfl, by decide +kernel, rfl, by decide +kernel, by decide +kernel⟩
theorem ok_law_draw (T : Txt K mg) (D : All K mg) : FnOk P w K mg base (L2.CX P w) 2 D.d_law_draw.f D.d_law_draw.fd ["script", "k", "sizes"] (spD K mg 3 m_law_draw) := fnD (k := 1) (N := ["script", "k", "sizes", "cell", "drawn", "mixed", "j", "size"]) (ps := ["script", "k", "sizes"]) (gb := g_law_draw) D.d_law_draw.F sc_law_draw fun cdv A outer s H E hr => by
  have sc := sc_law_draw
  have tk : Takes (cxOf (L2.CX P w) P w K mg base ["script", "k", "sizes", "cell", "drawn", "mixed", "j", "size"] "_law_draw" (defScope (topS 13)) D.d_law_draw.f cdv A outer s H E) (fun cls d _ H => E cls d H) := takes_of rfl rfl rfl rfl
  have PO : PassesOwn (model P w) (cxOf (L2.CX P w) P w K mg base ["script", "k", "sizes", "cell", "drawn", "mixed", "j", "size"] "_law_draw" (defScope (topS 13)) D.d_law_draw.f cdv A outer s H E).A (cxOf (L2.CX P w) P w K mg base ["script", "k", "sizes", "cell", "drawn", "mixed", "j", "size"] "_law_draw" (defScope (topS 13)) D.d_law_draw.f cdv A outer s H E).env (cxOf (L2.CX P w) P w K mg base ["script", "k", "sizes", "cell", "drawn", "mixed", "j", "size"] "_law_draw" (defScope (topS 13)) D.d_law_draw.f cdv A outer s H E).xe := passes_of rfl
  exact (ds_cons (ds_set (i := 3) sc.nd (de_call (ok_law_cell T D) (hr.mono (by decide)) tk D.d_law_cell.g D.d_law_cell.F.kp D.d_law_cell.b (da_cons (de_var 0) (da_cons (de_var 1) da_nil)) (hn := runD_no))) (ds_cons (ds_if (dt_cmp op_lt op2_intB (dp_var 3) (dp_of de_int) (nomark _)) (ds_one (ds_set (i := 3) sc.nd (de_un un_neg op1_neg (dp_var 3)))) ds_nil) (ds_cons (ds_set (i := 4) sc.nd (de_lst da_nil)) (ds_cons (ds_if (dt_cmp op_ge op2_intB (dp_var 3) (dp_of (de_op op_pow op2_pow (dp_of de_int) (dp_of de_int))) (nomark _)) (ds_cons (ds_set (i := 3) sc.nd (de_op op_sub (op2_intI fun _ _ => rfl) (dp_var 3) (dp_of (de_op op_pow op2_pow (dp_of de_int) (dp_of de_int))))) (ds_cons (ds_for (T := (.nm 7)) PO rfl (df_seq (de_var 2)) (pg_name (i := 7) sc.nd rfl (by first | exact .inl rfl | exact .inr rfl)) (ds_cons (ds_app 4 (pe_bm PySem.F.plainAttrs_list PySem.F.slot_list_append PySem.F.type_list_append mt_append (pv 4) (pa_cons (de_op op_mod op2_mod (dp_var 3) (dp_var 7)) pa_nil))) (ds_one (ds_set (i := 3) sc.nd (de_op op_fdiv op2_div (dp_var 3) (dp_var 7)))))) (ds_one (ds_retV 4)))) ds_nil) (ds_cons (ds_set (i := 5) sc.nd (de_op op_mod op2_mod (dp_of (de_op opr_add op2_add (dp_of (de_op opr_add op2_add (dp_var 3) (dp_of de_int))) (dp_of (de_op opr_mul op2_mul (dp_of de_int) (dp_var 1))))) (dp_of de_int))) (ds_cons (ds_for (T := (.nm 6)) PO rfl (df_rng1 T.n_range (de_len T.n_len (dp_var 2))) (pg_name (i := 6) sc.nd rfl (by first | exact .inl rfl | exact .inr rfl)) (ds_cons (ds_set (i := 5) sc.nd (de_op op_mod op2_mod (dp_of (de_op opr_add op2_add (dp_of (de_op opr_add op2_add (dp_of (de_op opr_mul op2_mul (dp_var 5) (dp_of de_int))) (dp_of de_int))) (dp_var 6))) (dp_of de_int))) (ds_cons (ds_set (i := 5) sc.nd (de_op op_mod op2_mod (dp_of (de_op opr_add op2_add (dp_of (de_op opr_mul op2_mul (dp_var 5) (dp_of de_int))) (dp_of de_int))) (dp_of de_int))) (ds_one (ds_app 4 (pe_bm PySem.F.plainAttrs_list PySem.F.slot_list_append PySem.F.type_list_append mt_append (pv 4) (pa_cons (de_op op_mod op2_mod (dp_of (de_op op_fdiv op2_div (dp_var 5) (dp_of de_int))) (dp_ix (dp_var 2) (dp_var 6))) pa_nil))))))) (ds_one (ds_retV 4))))))))
theorem sc_law_pool : FnScope ["rows"] [] (defScope (topS 11)) := ⟨rfl, rfl, rfl, by decide +kernel, rfl, by decide +kernel, by decide +kernel⟩
theorem ok_law_pool (T : Txt K mg) (D : All K mg) : FnOk P w K mg base (L2.CX P w) 1 D.d_law_pool.f D.d_law_pool.fd [] (spD K mg 0 m_law_pool) := fnD (k := 0) (N := ["rows"]) (ps := []) (gb := g_law_pool) D.d_law_pool.F sc_law_pool fun cdv A outer s H E hr => by
  have sc := sc_law_pool
  have tk : Takes (cxOf (L2.CX P w) P w K mg base ["rows"] "_law_pool" (defScope (topS 11)) D.d_law_pool.f cdv A outer s H E) (fun cls d _ H => E cls d H) := takes_of rfl rfl rfl rfl
  have PO : PassesOwn (model P w) (cxOf (L2.CX P w) P w K mg base ["rows"] "_law_pool" (defScope (topS 11)) D.d_law_pool.f cdv A outer s H E).A (cxOf (L2.CX P w) P w K mg base ["rows"] "_law_pool" (defScope (topS 11)) D.d_law_pool.f cdv A outer s H E).env (cxOf (L2.CX P w) P w K mg base ["rows"] "_law_pool" (defScope (topS 11)) D.d_law_pool.f cdv A outer s H E).xe := passes_of rfl
  exact (ds_cons (ds_set (i := 0) sc.nd (de_lst (da_cons (de_tup (da_cons de_str (da_cons de_str (da_cons (de_tup (da_cons de_str (da_cons de_int da_nil))) da_nil)))) (da_cons (de_tup (da_cons de_str (da_cons de_str (da_cons (de_tup (da_cons de_str (da_cons de_str (da_cons (de_tup (da_cons de_str (da_cons de_str da_nil))) (da_cons (de_tup (da_cons de_str (da_cons de_int da_nil))) da_nil))))) da_nil)))) (da_cons (de_tup (da_cons de_str (da_cons de_str (da_cons (de_tup (da_cons de_str da_nil)) da_nil)))) da_nil))))) (ds_cons (ds_app 0 (pe_bm PySem.F.plainAttrs_list PySem.F.slot_list_append PySem.F.type_list_append mt_append (pv 0) (pa_cons (de_tup (da_cons de_str (da_cons de_str (da_cons (de_tup (da_cons (de_tup (da_cons de_str (da_cons de_str (da_cons (de_tup (da_cons de_str (da_cons de_int da_nil))) (da_cons (de_tup (da_cons de_str (da_cons de_int da_nil))) (da_cons de_non da_nil)))))) (da_cons (de_tup (da_cons de_str (da_cons de_str (da_cons de_non (da_cons (de_tup da_nil) da_nil))))) da_nil))) da_nil)))) pa_nil))) (ds_cons (ds_app 0 (pe_bm PySem.F.plainAttrs_list PySem.F.slot_list_append PySem.F.type_list_append mt_append (pv 0) (pa_cons (de_tup (da_cons de_str (da_cons de_str (da_cons (de_tup (da_cons de_str (da_cons de_str (da_cons de_str da_nil)))) (da_cons (de_tup (da_cons de_str (da_cons de_int da_nil))) (da_cons de_bl da_nil)))))) pa_nil))) (ds_cons (ds_app 0 (pe_bm PySem.F.plainAttrs_list PySem.F.slot_list_append PySem.F.type_list_append mt_append (pv 0) (pa_cons (de_tup (da_cons de_str (da_cons de_str (da_cons (de_tup (da_cons de_str (da_cons de_non (da_cons (de_tup (da_cons de_str (da_cons de_str (da_cons (de_tup (da_cons de_str (da_cons de_str (da_cons de_str da_nil)))) (da_cons (de_tup (da_cons de_str (da_cons de_int da_nil))) da_nil))))) da_nil)))) da_nil)))) pa_nil))) (ds_one (ds_ret (de_op opr_add op2_add (dp_var 0) (dp_of (de_lst (da_cons (de_tup (da_cons de_str (da_cons de_str (da_cons (de_tup (da_cons de_str (da_cons de_int da_nil))) da_nil)))) (da_cons (de_tup (da_cons de_str (da_cons de_str (da_cons (de_tup da_nil) da_nil)))) da_nil)))))))))))
theorem sc_law_some_tree : FnScope ["script", "k", "wide", "pool", "digits", "j"] ["script", "k", "wide"] (defScope (topS 14)) := ⟨rfl, rfl, rfl, by decide +kernel, rfl, by decide +kernel, by decide +kernel⟩
theorem ok_law_some_tree (T : Txt K mg) (D : All K mg) : FnOk P w K mg base (L2.CX P w) 3 D.d_law_some_tree.f D.d_law_some_tree.fd ["script", "k", "wide"] (spD K mg 3 m_law_some_tree) := fnD (k := 2) (N := ["script", "k", "wide", "pool", "digits", "j"]) (ps := ["script", "k", "wide"]) (gb := g_law_some_tree) D.d_law_some_tree.F sc_law_some_tree fun cdv A outer s H E hr => by
  have sc := sc_law_some_tree
  have tk : Takes (cxOf (L2.CX P w) P w K mg base ["script", "k", "wide", "pool", "digits", "j"] "_law_some_tree" (defScope (topS 14)) D.d_law_some_tree.f cdv A outer s H E) (fun cls d _ H => E cls d H) := takes_of rfl rfl rfl rfl
  have PO : PassesOwn (model P w) (cxOf (L2.CX P w) P w K mg base ["script", "k", "wide", "pool", "digits", "j"] "_law_some_tree" (defScope (topS 14)) D.d_law_some_tree.f cdv A outer s H E).A (cxOf (L2.CX P w) P w K mg base ["script", "k", "wide", "pool", "digits", "j"] "_law_some_tree" (defScope (topS 14)) D.d_law_some_tree.f cdv A outer s H E).env (cxOf (L2.CX P w) P w K mg base ["script", "k", "wide", "pool", "digits", "j"] "_law_some_tree" (defScope (topS 14)) D.d_law_some_tree.f cdv A outer s H E).xe := passes_of rfl
  exact (ds_cons (ds_set (i := 3) sc.nd (de_call0 (ok_law_pool T D) (hr.mono (by decide)) D.d_law_pool.g D.d_law_pool.F.kp D.d_law_pool.b)) (ds_cons (ds_set (i := 4) sc.nd (de_call (ok_law_draw T D) (hr.mono (by decide)) tk D.d_law_draw.g D.d_law_draw.F.kp D.d_law_draw.b (da_cons (de_var 0) (da_cons (de_var 1) (da_cons (de_op opr_mul op2_mul (dp_of (de_lst (da_cons de_int da_nil))) (dp_of de_int)) da_nil))) (hn := runD_no))) (ds_one (ds_ret (de_tuple T.n_tuple (dp_of (de_lc (T := (.nm 5)) rfl sc.nd (di_of (df_rng1 T.n_range (de_of (dp_ix (dp_var 4) (dp_of de_int))))) (blkOk_by (own := [(PySem.Str.ofString "j", 5)]) (by show blkC ["script", "k", "wide", "pool", "digits", "j"] (defScope (topS 14)) _ _ = true; decide +kernel)) (fun s H C cl fp => (pg_name (i := 5) sc.nd rfl (by first | exact .inl rfl | exact .inr rfl))) (fun s H C cl fp => dts_nil) (fun s H C cl fp => (de_of (dp_ix (dp_var 3) (dp_of (de_op op_mod op2_mod (dp_ix (dp_var 4) (dp_of (de_op opr_add op2_add (dp_of de_int) (dp_var 5)))) (dp_var 2)))))))))))))
theorem sc_law_near_tree : FnScope ["script", "k", "tree", "pool", "rows", "j", "digits", "at"] ["script", "k", "tree"] (defScope (topS 15)) := ⟨rfl, rfl, rfl, by decide +kernel, rfl, by decide +kernel, by decide +kernel⟩
theorem ok_law_near_tree (T : Txt K mg) (D : All K mg) : FnOk P w K mg base (L2.CX P w) 3 D.d_law_near_tree.f D.d_law_near_tree.fd ["script", "k", "tree"] (spD K mg 3 m_law_near_tree) := fnD (k := 2) (N := ["script", "k", "tree", "pool", "rows", "j", "digits", "at"]) (ps := ["script", "k", "tree"]) (gb := g_law_near_tree) D.d_law_near_tree.F sc_law_near_tree fun cdv A outer s H E hr => by
  have sc := sc_law_near_tree
  have tk : Takes (cxOf (L2.CX P w) P w K mg base ["script", "k", "tree", "pool", "rows", "j", "digits", "at"] "_law_near_tree" (defScope (topS 15)) D.d_law_near_tree.f cdv A outer s H E) (fun cls d _ H => E cls d H) := takes_of rfl rfl rfl rfl
  have PO : PassesOwn (model P w) (cxOf (L2.CX P w) P w K mg base ["script", "k", "tree", "pool", "rows", "j", "digits", "at"] "_law_near_tree" (defScope (topS 15)) D.d_law_near_tree.f cdv A outer s H E).A (cxOf (L2.CX P w) P w K mg base ["script", "k", "tree", "pool", "rows", "j", "digits", "at"] "_law_near_tree" (defScope (topS 15)) D.d_law_near_tree.f cdv A outer s H E).env (cxOf (L2.CX P w) P w K mg base ["script", "k", "tree", "pool", "rows", "j", "digits", "at"] "_law_near_tree" (defScope (topS 15)) D.d_law_near_tree.f cdv A outer s H E).xe := passes_of rfl
  exact (ds_cons (ds_set (i := 3) sc.nd (de_call0 (ok_law_pool T D) (hr.mono (by decide)) D.d_law_pool.g D.d_law_pool.F.kp D.d_law_pool.b)) (ds_cons (ds_set (i := 4) sc.nd (de_list T.n_list (dp_var 2))) (ds_cons (ds_for (T := (.nm 5)) PO rfl (df_rng1 T.n_range (de_of (dp_ix (dp_of (de_call (ok_law_draw T D) (hr.mono (by decide)) tk D.d_law_draw.g D.d_law_draw.F.kp D.d_law_draw.b (da_cons (de_var 0) (da_cons (de_var 1) (da_cons (de_lst (da_cons de_int da_nil)) da_nil))) (hn := runD_no))) (dp_of de_int)))) (pg_name (i := 5) sc.nd rfl (by first | exact .inl rfl | exact .inr rfl)) (ds_cons (ds_set (i := 6) sc.nd (de_call (ok_law_draw T D) (hr.mono (by decide)) tk D.d_law_draw.g D.d_law_draw.F.kp D.d_law_draw.b (da_cons (de_var 0) (da_cons (de_op opr_add op2_add (dp_of (de_op opr_add op2_add (dp_var 1) (dp_of de_int))) (dp_var 5)) (da_cons (de_lst (da_cons de_int (da_cons de_int (da_cons de_int da_nil)))) da_nil))) (hn := runD_no))) (ds_cons (ds_set (i := 7) sc.nd (de_op op_mod op2_mod (dp_ix (dp_var 6) (dp_of de_int)) (dp_of (de_op opr_add op2_add (dp_of (de_len T.n_len (dp_var 4))) (dp_of de_int))))) (ds_cons (ds_if (PW.pt (dw_and (dt_cmp op_lt op2_intB (dp_ix (dp_var 6) (dp_of de_int)) (dp_of de_int) (nomark _)) (dw_and1 (dt_cmp op_lt op2_intB (dp_var 7) (dp_of (de_len T.n_len (dp_var 4))) (nomark _))))) (ds_one (ds_set (i := 4) sc.nd (de_op opr_add op2_add (dp_of (de_slice (dp_var 4) dpo_none (dpo_some (de_var 7)))) (dp_of (de_slice (dp_var 4) (dpo_some (de_op opr_add op2_add (dp_var 7) (dp_of de_int))) dpo_none))))) ds_nil) (ds_one (ds_if (dt_cmp op_gt op2_intB (dp_ix (dp_var 6) (dp_of de_int)) (dp_of de_int) (nomark _)) (ds_one (ds_set (i := 4) sc.nd (de_op opr_add op2_add (dp_of (de_op opr_add op2_add (dp_of (de_slice (dp_var 4) dpo_none (dpo_some (de_var 7)))) (dp_of (de_lst (da_cons (de_of (dp_ix (dp_var 3) (dp_ix (dp_var 6) (dp_of de_int)))) da_nil))))) (dp_of (de_slice (dp_var 4) (dpo_some (de_var 7)) dpo_none))))) ds_nil)))))) (ds_one (ds_ret (de_tuple T.n_tuple (dp_var 4)))))))
theorem sc_law_alike : FnScope ["actual", "expected", "k"] ["actual", "expected"] (defScope (topS 16)) := ⟨rfl, rfl, rfl, by decide +kernel, rfl, by decide +kernel, by decide +kernel⟩
theorem ok_law_alike (T : Txt K mg) (D : All K mg) : ∀ n : Nat, FnOk P w K mg base (L2.CX P w) (1 + n) D.d_law_alike.f D.d_law_alike.fd ["actual", "expected"] (spD K mg 2 (m_law_alike n))
  | 0 => ⟨fun vs H Q E ⟨_, _, _, _, _, h⟩ => h.elim, fun _ _ _ _ _ _ _ _ _ _ _ _ _ ⟨_, _, _, _, _, h⟩ => h.elim⟩
  | n + 1 => fnD D.d_law_alike.F sc_law_alike fun cdv A outer s H E hr => by
    have RF := ok_law_alike T D n
    have RN := mn_law_alike n
    have sc := sc_law_alike
    have tk : Takes (cxOf (L2.CX P w) P w K mg base ["actual", "expected", "k"] "_law_alike" (defScope (topS 16)) D.d_law_alike.f cdv A outer s H E) (fun cls d _ H => E cls d H) := takes_of rfl rfl rfl rfl
    have PO : PassesOwn (model P w) (cxOf (L2.CX P w) P w K mg base ["actual", "expected", "k"] "_law_alike" (defScope (topS 16)) D.d_law_alike.f cdv A outer s H E).A (cxOf (L2.CX P w) P w K mg base ["actual", "expected", "k"] "_law_alike" (defScope (topS 16)) D.d_law_alike.f cdv A outer s H E).env (cxOf (L2.CX P w) P w K mg base ["actual", "expected", "k"] "_law_alike" (defScope (topS 16)) D.d_law_alike.f cdv A outer s H E).xe := passes_of rfl
    exact (ds_cons (ds_if (dt_isN (dp_var 1)) (ds_one (ds_ret (de_isN (dp_var 0)))) ds_nil) (ds_cons (ds_if (dt_val (de_isi (.inl rfl) T.n_isinstance T.n_bool (by decide +kernel) (dp_var 1))) (ds_one (ds_ret (de_and (de_isi (.inl rfl) T.n_isinstance T.n_bool (by decide +kernel) (dp_var 0)) (de_one (de_cmp (op_eqD hr.units) op2_eq (dp_var 0) (dp_var 1) (nomark _)))))) ds_nil) (ds_cons (ds_if (dt_val (de_isi (.inr (.inl rfl)) T.n_isinstance T.n_int (by decide +kernel) (dp_var 1))) (ds_one (ds_ret (de_and (de_isi (.inr (.inl rfl)) T.n_isinstance T.n_int (by decide +kernel) (dp_var 0)) (de_and (de_not (de_isi (.inl rfl) T.n_isinstance T.n_bool (by decide +kernel) (dp_var 0))) (de_one (de_cmp (op_eqD hr.units) op2_eq (dp_var 0) (dp_var 1) (nomark _))))))) ds_nil) (ds_cons (ds_if (dt_val (de_isi (.inr (.inr (.inl rfl))) T.n_isinstance T.n_str (by decide +kernel) (dp_var 1))) (ds_one (ds_ret (de_and (de_isi (.inr (.inr (.inl rfl))) T.n_isinstance T.n_str (by decide +kernel) (dp_var 0)) (de_one (de_cmp (op_eqD hr.units) op2_eq (dp_var 0) (dp_var 1) (nomark _)))))) ds_nil) (ds_cons (ds_if (PW.pt (dw_and (dt_val (de_isi (.inr (.inr (.inr (.inr rfl)))) T.n_isinstance T.n_tuple (by decide +kernel) (dp_var 1))) (dw_and1 (dt_not (dt_val (de_isi (.inr (.inr (.inr (.inr rfl)))) T.n_isinstance T.n_tuple (by decide +kernel) (dp_var 0))))))) (ds_one (ds_ret de_bl)) ds_nil) (ds_cons (ds_if (PW.pt (dw_and (dt_val (de_isi (.inr (.inr (.inr (.inl rfl)))) T.n_isinstance T.n_list (by decide +kernel) (dp_var 1))) (dw_and1 (dt_not (dt_val (de_isi (.inr (.inr (.inr (.inl rfl)))) T.n_isinstance T.n_list (by decide +kernel) (dp_var 0))))))) (ds_one (ds_ret de_bl)) ds_nil) (ds_cons (ds_if (dt_cmp (op_neD hr.units) op2_ne (dp_of (de_len T.n_len (dp_var 0))) (dp_of (de_len T.n_len (dp_var 1))) (nomark _)) (ds_one (ds_ret de_bl)) ds_nil) (ds_cons (ds_for (T := (.nm 2)) PO rfl (df_rng1 T.n_range (de_len T.n_len (dp_var 1))) (pg_name (i := 2) sc.nd rfl (by first | exact .inl rfl | exact .inr rfl)) (ds_one (ds_if (dt_not (dt_val (de_call RF (hr.mono (Nat.le_refl _)) tk D.d_law_alike.g D.d_law_alike.F.kp D.d_law_alike.b (da_cons (de_of (dp_ix (dp_var 0) (dp_var 2))) (da_cons (de_of (dp_ix (dp_var 1) (dp_var 2))) da_nil)) (hn := RN)))) (ds_one (ds_ret de_bl)) ds_nil))) (ds_one (ds_ret de_bl))))))))))
theorem sc_law_table_of : FnScope ["tree", "other", "table", "i", "j"] ["tree", "other"] (defScope (topS 9)) := ⟨rfl, rfl, rfl, by decide +kernel, rfl, by decide +kernel, by decide +kernel⟩
theorem ok_law_table_of (T : Txt K mg) (D : All K mg) : FnOk P w K mg base (L2.CX P w) 1 D.d_law_table_of.f D.d_law_table_of.fd ["tree", "other"] (spD K mg 2 m_law_table_of) := fnD (k := 0) (N := ["tree", "other", "table", "i", "j"]) (ps := ["tree", "other"]) (gb := g_law_table_of) D.d_law_table_of.F sc_law_table_of fun cdv A outer s H E hr => by
  have sc := sc_law_table_of
  have tk : Takes (cxOf (L2.CX P w) P w K mg base ["tree", "other", "table", "i", "j"] "_law_table_of" (defScope (topS 9)) D.d_law_table_of.f cdv A outer s H E) (fun cls d _ H => E cls d H) := takes_of rfl rfl rfl rfl
  have PO : PassesOwn (model P w) (cxOf (L2.CX P w) P w K mg base ["tree", "other", "table", "i", "j"] "_law_table_of" (defScope (topS 9)) D.d_law_table_of.f cdv A outer s H E).A (cxOf (L2.CX P w) P w K mg base ["tree", "other", "table", "i", "j"] "_law_table_of" (defScope (topS 9)) D.d_law_table_of.f cdv A outer s H E).env (cxOf (L2.CX P w) P w K mg base ["tree", "other", "table", "i", "j"] "_law_table_of" (defScope (topS 9)) D.d_law_table_of.f cdv A outer s H E).xe := passes_of rfl
  exact (ds_cons (ds_lcR (i := 2) (T := (.nm 3)) rfl sc.nd (sw_true rfl rfl rfl (by decide +kernel)) (di_of (df_rng1 T.n_range (de_op opr_add op2_add (dp_of (de_len T.n_len (dp_var 0))) (dp_of de_int)))) (blkOk_by (own := [(PySem.Str.ofString "i", 3)]) (by show blkC ["tree", "other", "table", "i", "j"] (defScope (topS 9)) _ _ = true; decide +kernel)) (fun s H C cl fp => (pg_name (i := 3) sc.nd rfl (by first | exact .inl rfl | exact .inr rfl))) (fun s H C cl fp => dts_nil) (fun s H C cl fp => (de_lc (T := (.nm 4)) rfl sc.nd (di_of (df_rng1 T.n_range (de_op opr_add op2_add (dp_of (de_len T.n_len (dp_var 1))) (dp_of de_int)))) (blkOk_by (own := [(PySem.Str.ofString "j", 4)]) (by show blkC ["tree", "other", "table", "i", "j"] (relS _ (defScope (topS 9))) _ _ = true; decide +kernel)) (fun s H C cl fp => (pg_name (i := 4) sc.nd rfl (by first | exact .inl rfl | exact .inr rfl))) (fun s H C cl fp => dts_nil) (fun s H C cl fp => de_int)))) (ds_cons (ds_for (T := (.nm 3)) PO rfl (df_rng3 T.n_range (de_op op_sub (op2_intI fun _ _ => rfl) (dp_of (de_len T.n_len (dp_var 0))) (dp_of de_int)) (de_op op_sub (op2_intI fun _ _ => rfl) (dp_of de_int) (dp_of de_int)) (de_op op_sub (op2_intI fun _ _ => rfl) (dp_of de_int) (dp_of de_int))) (pg_name (i := 3) sc.nd rfl (by first | exact .inl rfl | exact .inr rfl)) (ds_one (ds_for (T := (.nm 4)) PO rfl (df_rng3 T.n_range (de_op op_sub (op2_intI fun _ _ => rfl) (dp_of (de_len T.n_len (dp_var 1))) (dp_of de_int)) (de_op op_sub (op2_intI fun _ _ => rfl) (dp_of de_int) (dp_of de_int)) (de_op op_sub (op2_intI fun _ _ => rfl) (dp_of de_int) (dp_of de_int))) (pg_name (i := 4) sc.nd rfl (by first | exact .inl rfl | exact .inr rfl)) (ds_one (ds_if (dt_cmp (op_eqD hr.units) op2_eq (dp_ix (dp_var 0) (dp_var 3)) (dp_ix (dp_var 1) (dp_var 4)) (nomark _)) (ds_one (ds_setII 2 (pg_sub (pe_ix ix_seq (pv 2) (de_var 3) (fun _ _ => rfl)) (de_var 4) set_list) (de_op opr_add op2_add (dp_ix (dp_ix (dp_var 2) (dp_of (de_op opr_add op2_add (dp_var 3) (dp_of de_int)))) (dp_of (de_op opr_add op2_add (dp_var 4) (dp_of de_int)))) (dp_of de_int)))) (ds_one (ds_setII 2 (pg_sub (pe_ix ix_seq (pv 2) (de_var 3) (fun _ _ => rfl)) (de_var 4) set_list) (de_max rfl T.n_max (dp_ix (dp_ix (dp_var 2) (dp_of (de_op opr_add op2_add (dp_var 3) (dp_of de_int)))) (dp_var 4)) (dp_ix (dp_ix (dp_var 2) (dp_var 3)) (dp_of (de_op opr_add op2_add (dp_var 4) (dp_of de_int)))))))))))) (ds_one (ds_retV 2))))
theorem sc_law_partners : FnScope ["tree", "other", "table", "found", "j", "i", "item"] ["tree", "other"] (defScope (topS 10)) := ⟨rfl, rfl, rfl, by decide +kernel, rfl, by decide +kernel, by decide +kernel⟩
theorem ok_law_partners (T : Txt K mg) (D : All K mg) : FnOk P w K mg base (L2.CX P w) 2 D.d_law_partners.f D.d_law_partners.fd ["tree", "other"] (spD K mg 2 m_law_partners) := fnD (k := 1) (N := ["tree", "other", "table", "found", "j", "i", "item"]) (ps := ["tree", "other"]) (gb := g_law_partners) D.d_law_partners.F sc_law_partners fun cdv A outer s H E hr => by
  have sc := sc_law_partners
  have tk : Takes (cxOf (L2.CX P w) P w K mg base ["tree", "other", "table", "found", "j", "i", "item"] "_law_partners" (defScope (topS 10)) D.d_law_partners.f cdv A outer s H E) (fun cls d _ H => E cls d H) := takes_of rfl rfl rfl rfl
  have PO : PassesOwn (model P w) (cxOf (L2.CX P w) P w K mg base ["tree", "other", "table", "found", "j", "i", "item"] "_law_partners" (defScope (topS 10)) D.d_law_partners.f cdv A outer s H E).A (cxOf (L2.CX P w) P w K mg base ["tree", "other", "table", "found", "j", "i", "item"] "_law_partners" (defScope (topS 10)) D.d_law_partners.f cdv A outer s H E).env (cxOf (L2.CX P w) P w K mg base ["tree", "other", "table", "found", "j", "i", "item"] "_law_partners" (defScope (topS 10)) D.d_law_partners.f cdv A outer s H E).xe := passes_of rfl
  exact (ds_cons (ds_set (i := 2) sc.nd (de_call (ok_law_table_of T D) (hr.mono (by decide)) tk D.d_law_table_of.g D.d_law_table_of.F.kp D.d_law_table_of.b (da_cons (de_var 0) (da_cons (de_var 1) da_nil)) (hn := runD_no))) (ds_cons (ds_lc (i := 3) (T := (.nm 6)) rfl sc.nd (sw_true rfl rfl rfl (by decide +kernel)) (di_seq (dp_var 0)) (blkOk_by (own := [(PySem.Str.ofString "item", 6)]) (by show blkC ["tree", "other", "table", "found", "j", "i", "item"] (defScope (topS 10)) _ _ = true; decide +kernel)) (fun s H C cl fp => (pg_name (i := 6) sc.nd rfl (by first | exact .inl rfl | exact .inr rfl))) (fun s H C cl fp => dts_nil) (fun s H C cl fp => de_non)) (ds_cons (ds_set (i := 4) sc.nd de_int) (ds_cons (ds_for (T := (.nm 5)) PO rfl (df_rng1 T.n_range (de_len T.n_len (dp_var 0))) (pg_name (i := 5) sc.nd rfl (by first | exact .inl rfl | exact .inr rfl)) (ds_cons (ds_while 1000000 PO (PW.pt (dw_and (dt_cmp op_lt op2_intB (dp_var 4) (dp_of (de_len T.n_len (dp_var 1))) (nomark _)) (dw_and (dt_cmp (op_neD hr.units) op2_ne (dp_ix (dp_var 0) (dp_var 5)) (dp_ix (dp_var 1) (dp_var 4)) (nomark _)) (dw_and1 (dt_cmp op_lt op2_intB (dp_ix (dp_ix (dp_var 2) (dp_of (de_op opr_add op2_add (dp_var 5) (dp_of de_int)))) (dp_var 4)) (dp_ix (dp_ix (dp_var 2) (dp_var 5)) (dp_of (de_op opr_add op2_add (dp_var 4) (dp_of de_int)))) (nomark _)))))) (ds_one (ds_set (i := 4) sc.nd (de_op opr_add op2_add (dp_var 4) (dp_of de_int))))) (ds_one (ds_if (PW.pt (dw_and (dt_cmp op_lt op2_intB (dp_var 4) (dp_of (de_len T.n_len (dp_var 1))) (nomark _)) (dw_and1 (dt_cmp (op_eqD hr.units) op2_eq (dp_ix (dp_var 0) (dp_var 5)) (dp_ix (dp_var 1) (dp_var 4)) (nomark _))))) (ds_cons (ds_setI 3 (pg_sub (pv 3) (de_var 5) set_list) (de_var 4)) (ds_one (ds_set (i := 4) sc.nd (de_op opr_add op2_add (dp_var 4) (dp_of de_int))))) ds_nil)))) (ds_one (ds_retV 3))))))
theorem sc_law_due : FnScope ["base", "left", "right", "to_left", "to_right", "stays", "cuts", "found", "old", "cut", "parts", "i"] ["base", "left", "right"] (defScope (topS 17)) := ⟨rfl, rfl, rfl, by decide +kernel, rfl, by decide +kernel, by decide +kernel⟩
theorem ok_law_due (T : Txt K mg) (D : All K mg) : FnOk P w K mg base (L2.CX P w) 3 D.d_law_due.f D.d_law_due.fd ["base", "left", "right"] (spD K mg 3 m_law_due) := fnD (k := 2) (N := ["base", "left", "right", "to_left", "to_right", "stays", "cuts", "found", "old", "cut", "parts", "i"]) (ps := ["base", "left", "right"]) (gb := g_law_due) D.d_law_due.F sc_law_due fun cdv A outer s H E hr => by
  have sc := sc_law_due
  have tk : Takes (cxOf (L2.CX P w) P w K mg base ["base", "left", "right", "to_left", "to_right", "stays", "cuts", "found", "old", "cut", "parts", "i"] "_law_due" (defScope (topS 17)) D.d_law_due.f cdv A outer s H E) (fun cls d _ H => E cls d H) := takes_of rfl rfl rfl rfl
  have PO : PassesOwn (model P w) (cxOf (L2.CX P w) P w K mg base ["base", "left", "right", "to_left", "to_right", "stays", "cuts", "found", "old", "cut", "parts", "i"] "_law_due" (defScope (topS 17)) D.d_law_due.f cdv A outer s H E).A (cxOf (L2.CX P w) P w K mg base ["base", "left", "right", "to_left", "to_right", "stays", "cuts", "found", "old", "cut", "parts", "i"] "_law_due" (defScope (topS 17)) D.d_law_due.f cdv A outer s H E).env (cxOf (L2.CX P w) P w K mg base ["base", "left", "right", "to_left", "to_right", "stays", "cuts", "found", "old", "cut", "parts", "i"] "_law_due" (defScope (topS 17)) D.d_law_due.f cdv A outer s H E).xe := passes_of rfl
  exact (ds_cons (ds_set (i := 3) sc.nd (de_call (ok_law_partners T D) (hr.mono (by decide)) tk D.d_law_partners.g D.d_law_partners.F.kp D.d_law_partners.b (da_cons (de_var 0) (da_cons (de_var 1) da_nil)) (hn := runD_no))) (ds_cons (ds_set (i := 4) sc.nd (de_call (ok_law_partners T D) (hr.mono (by decide)) tk D.d_law_partners.g D.d_law_partners.F.kp D.d_law_partners.b (da_cons (de_var 0) (da_cons (de_var 2) da_nil)) (hn := runD_no))) (ds_cons (ds_lc (i := 5) (T := (.nm 11)) rfl sc.nd (sw_true rfl rfl rfl (by decide +kernel)) (di_of (df_rng1 T.n_range (de_len T.n_len (dp_var 0)))) (blkOk_by (own := [(PySem.Str.ofString "i", 11)]) (by show blkC ["base", "left", "right", "to_left", "to_right", "stays", "cuts", "found", "old", "cut", "parts", "i"] (defScope (topS 17)) _ _ = true; decide +kernel)) (fun s H C cl fp => (pg_name (i := 11) sc.nd rfl (by first | exact .inl rfl | exact .inr rfl))) (fun s H C cl fp => (dts_one (PW.pt (dw_and (dt_notN (dp_ix (dp_var 3) (dp_var 11))) (dw_and1 (dt_notN (dp_ix (dp_var 4) (dp_var 11)))))))) (fun s H C cl fp => (de_var 11))) (ds_cons (ds_set (i := 6) sc.nd (de_op opr_add op2_add (dp_of (de_lc (T := (.nm 11)) rfl sc.nd (di_seq (dp_var 5)) (blkOk_by (own := [(PySem.Str.ofString "i", 11)]) (by show blkC ["base", "left", "right", "to_left", "to_right", "stays", "cuts", "found", "old", "cut", "parts", "i"] (defScope (topS 17)) _ _ = true; decide +kernel)) (fun s H C cl fp => (pg_name (i := 11) sc.nd rfl (by first | exact .inl rfl | exact .inr rfl))) (fun s H C cl fp => dts_nil) (fun s H C cl fp => (de_tup (da_cons (de_var 11) (da_cons (de_of (dp_ix (dp_var 3) (dp_var 11))) (da_cons (de_of (dp_ix (dp_var 4) (dp_var 11))) da_nil))))))) (dp_of (de_lst (da_cons (de_tup (da_cons (de_len T.n_len (dp_var 0)) (da_cons (de_len T.n_len (dp_var 1)) (da_cons (de_len T.n_len (dp_var 2)) da_nil)))) da_nil))))) (ds_cons (ds_set (i := 7) sc.nd (de_tup da_nil)) (ds_cons (ds_set (i := 8) sc.nd (de_tup (da_cons (de_op op_sub (op2_intI fun _ _ => rfl) (dp_of de_int) (dp_of de_int)) (da_cons (de_op op_sub (op2_intI fun _ _ => rfl) (dp_of de_int) (dp_of de_int)) (da_cons (de_op op_sub (op2_intI fun _ _ => rfl) (dp_of de_int) (dp_of de_int)) da_nil))))) (ds_cons (ds_frz [6] (ds_for (T := (.nm 9)) PO rfl (df_seq (de_var 6)) (pg_name (i := 9) sc.nd rfl (by first | exact .inl rfl | exact .inr rfl)) (ds_cons (ds_set (i := 10) sc.nd (de_lst (da_cons (de_slice (dp_var 0) (dpo_some (de_op opr_add op2_add (dp_ix (dp_var 8) (dp_of de_int)) (dp_of de_int))) (dpo_some (de_of (dp_ix (dp_var 9) (dp_of de_int))))) (da_cons (de_slice (dp_var 1) (dpo_some (de_op opr_add op2_add (dp_ix (dp_var 8) (dp_of de_int)) (dp_of de_int))) (dpo_some (de_of (dp_ix (dp_var 9) (dp_of de_int))))) (da_cons (de_slice (dp_var 2) (dpo_some (de_op opr_add op2_add (dp_ix (dp_var 8) (dp_of de_int)) (dp_of de_int))) (dpo_some (de_of (dp_ix (dp_var 9) (dp_of de_int))))) da_nil))))) (ds_cons (ds_if (dt_cmp (op_eqD hr.units) op2_eq (dp_ix (dp_var 10) (dp_of de_int)) (dp_ix (dp_var 10) (dp_of de_int)) (nomark _)) (ds_one (ds_set (i := 7) sc.nd (de_op opr_add op2_add (dp_var 7) (dp_ix (dp_var 10) (dp_of de_int))))) (ds_one (ds_if (PW.pt (dw_or (dt_cmp (op_eqD hr.units) op2_eq (dp_ix (dp_var 10) (dp_of de_int)) (dp_ix (dp_var 10) (dp_of de_int)) (nomark _)) (dw_or1 (dt_cmp (op_eqD hr.units) op2_eq (dp_ix (dp_var 10) (dp_of de_int)) (dp_ix (dp_var 10) (dp_of de_int)) (nomark _))))) (ds_one (ds_set (i := 7) sc.nd (de_op opr_add op2_add (dp_var 7) (dp_ix (dp_var 10) (dp_of de_int))))) (ds_one (ds_ret (de_op opr_add op2_add (dp_ix (dp_var 8) (dp_of de_int)) (dp_of de_int))))))) (ds_cons (ds_set (i := 7) sc.nd (de_op opr_add op2_add (dp_var 7) (dp_of (de_slice (dp_var 0) (dpo_some (de_of (dp_ix (dp_var 9) (dp_of de_int)))) (dpo_some (de_op opr_add op2_add (dp_ix (dp_var 9) (dp_of de_int)) (dp_of de_int))))))) (ds_one (ds_set (i := 8) sc.nd (de_var 9)))))))) (ds_one (ds_retV 7)))))))))
theorem sc_common_lengths : FnScope ["tree", "other", "table", "i", "j", "_"] ["tree", "other"] (defScope (topS 4)) := ⟨rfl, rfl, rfl, by decide +kernel, rfl, by decide +kernel, by decide +kernel⟩
theorem ok_common_lengths (T : Txt K mg) (D : All K mg) : FnOk P w K mg base (L2.CX P w) 1 D.d_common_lengths.f D.d_common_lengths.fd ["tree", "other"] (spD K mg 2 m_common_lengths) := fnD (k := 0) (N := ["tree", "other", "table", "i", "j", "_"]) (ps := ["tree", "other"]) (gb := g_common_lengths) D.d_common_lengths.F sc_common_lengths fun cdv A outer s H E hr => by
  have sc := sc_common_lengths
  have tk : Takes (cxOf (L2.CX P w) P w K mg base ["tree", "other", "table", "i", "j", "_"] "common_lengths" (defScope (topS 4)) D.d_common_lengths.f cdv A outer s H E) (fun cls d _ H => E cls d H) := takes_of rfl rfl rfl rfl
  have PO : PassesOwn (model P w) (cxOf (L2.CX P w) P w K mg base ["tree", "other", "table", "i", "j", "_"] "common_lengths" (defScope (topS 4)) D.d_common_lengths.f cdv A outer s H E).A (cxOf (L2.CX P w) P w K mg base ["tree", "other", "table", "i", "j", "_"] "common_lengths" (defScope (topS 4)) D.d_common_lengths.f cdv A outer s H E).env (cxOf (L2.CX P w) P w K mg base ["tree", "other", "table", "i", "j", "_"] "common_lengths" (defScope (topS 4)) D.d_common_lengths.f cdv A outer s H E).xe := passes_of rfl
  exact (ds_cons (ds_lcR (i := 2) (T := (.nm 5)) rfl sc.nd (sw_true rfl rfl rfl (by decide +kernel)) (di_of (df_rng1 T.n_range (de_op opr_add op2_add (dp_of (de_len T.n_len (dp_var 0))) (dp_of de_int)))) (blkOk_by (own := [(PySem.Str.ofString "_", 5)]) (by show blkC ["tree", "other", "table", "i", "j", "_"] (defScope (topS 4)) _ _ = true; decide +kernel)) (fun s H C cl fp => (pg_name (i := 5) sc.nd rfl (by first | exact .inl rfl | exact .inr rfl))) (fun s H C cl fp => dts_nil) (fun s H C cl fp => (de_op opr_mul op2_mul (dp_of (de_lst (da_cons de_int da_nil))) (dp_of (de_op opr_add op2_add (dp_of (de_len T.n_len (dp_var 1))) (dp_of de_int)))))) (ds_cons (ds_for (T := (.nm 3)) PO rfl (df_rev1 T.n_reversed T.n_range (de_len T.n_len (dp_var 0))) (pg_name (i := 3) sc.nd rfl (by first | exact .inl rfl | exact .inr rfl)) (ds_one (ds_for (T := (.nm 4)) PO rfl (df_rev1 T.n_reversed T.n_range (de_len T.n_len (dp_var 1))) (pg_name (i := 4) sc.nd rfl (by first | exact .inl rfl | exact .inr rfl)) (ds_one (ds_if (dt_cmp (op_eqD hr.units) op2_eq (dp_ix (dp_var 0) (dp_var 3)) (dp_ix (dp_var 1) (dp_var 4)) (nomark _)) (ds_one (ds_setII 2 (pg_sub (pe_ix ix_seq (pv 2) (de_var 3) (fun _ _ => rfl)) (de_var 4) set_list) (de_op opr_add op2_add (dp_ix (dp_ix (dp_var 2) (dp_of (de_op opr_add op2_add (dp_var 3) (dp_of de_int)))) (dp_of (de_op opr_add op2_add (dp_var 4) (dp_of de_int)))) (dp_of de_int)))) (ds_one (ds_setII 2 (pg_sub (pe_ix ix_seq (pv 2) (de_var 3) (fun _ _ => rfl)) (de_var 4) set_list) (de_max rfl T.n_max (dp_ix (dp_ix (dp_var 2) (dp_of (de_op opr_add op2_add (dp_var 3) (dp_of de_int)))) (dp_var 4)) (dp_ix (dp_ix (dp_var 2) (dp_var 3)) (dp_of (de_op opr_add op2_add (dp_var 4) (dp_of de_int)))))))))))) (ds_one (ds_retV 2))))
theorem sc_partners_of : FnScope ["tree", "other", "table", "found", "i", "j"] ["tree", "other"] (defScope (topS 5)) := ⟨rfl, rfl, rfl, by decide +kernel, rfl, by decide +kernel, by decide +kernel⟩
theorem ok_partners_of (T : Txt K mg) (D : All K mg) : FnOk P w K mg base (L2.CX P w) 2 D.d_partners_of.f D.d_partners_of.fd ["tree", "other"] (spD K mg 2 m_partners_of) := fnD (k := 1) (N := ["tree", "other", "table", "found", "i", "j"]) (ps := ["tree", "other"]) (gb := g_partners_of) D.d_partners_of.F sc_partners_of fun cdv A outer s H E hr => by
  have sc := sc_partners_of
  have tk : Takes (cxOf (L2.CX P w) P w K mg base ["tree", "other", "table", "found", "i", "j"] "partners_of" (defScope (topS 5)) D.d_partners_of.f cdv A outer s H E) (fun cls d _ H => E cls d H) := takes_of rfl rfl rfl rfl
  have PO : PassesOwn (model P w) (cxOf (L2.CX P w) P w K mg base ["tree", "other", "table", "found", "i", "j"] "partners_of" (defScope (topS 5)) D.d_partners_of.f cdv A outer s H E).A (cxOf (L2.CX P w) P w K mg base ["tree", "other", "table", "found", "i", "j"] "partners_of" (defScope (topS 5)) D.d_partners_of.f cdv A outer s H E).env (cxOf (L2.CX P w) P w K mg base ["tree", "other", "table", "found", "i", "j"] "partners_of" (defScope (topS 5)) D.d_partners_of.f cdv A outer s H E).xe := passes_of rfl
  exact (ds_cons (ds_set (i := 2) sc.nd (de_call (ok_common_lengths T D) (hr.mono (by decide)) tk D.d_common_lengths.g D.d_common_lengths.F.kp D.d_common_lengths.b (da_cons (de_var 0) (da_cons (de_var 1) da_nil)) (hn := runD_no))) (ds_cons (ds_set (i := 3) sc.nd (de_op opr_mul op2_mul (dp_of (de_lst (da_cons de_non da_nil))) (dp_of (de_len T.n_len (dp_var 0))))) (ds_cons (ds_set (i := 4) sc.nd de_int) (ds_cons (ds_set (i := 5) sc.nd de_int) (ds_cons (ds_while 1000000 PO (PW.pt (dw_and (dt_cmp op_lt op2_intB (dp_var 4) (dp_of (de_len T.n_len (dp_var 0))) (nomark _)) (dw_and1 (dt_cmp op_lt op2_intB (dp_var 5) (dp_of (de_len T.n_len (dp_var 1))) (nomark _))))) (ds_one (ds_if (dt_cmp (op_eqD hr.units) op2_eq (dp_ix (dp_var 0) (dp_var 4)) (dp_ix (dp_var 1) (dp_var 5)) (nomark _)) (ds_cons (ds_setI 3 (pg_sub (pv 3) (de_var 4) set_list) (de_var 5)) (ds_cons (ds_aug 4 sc.nd de_int ip_add) (ds_one (ds_aug 5 sc.nd de_int ip_add)))) (ds_one (ds_if (dt_cmp op_ge op2_intB (dp_ix (dp_ix (dp_var 2) (dp_of (de_op opr_add op2_add (dp_var 4) (dp_of de_int)))) (dp_var 5)) (dp_ix (dp_ix (dp_var 2) (dp_var 4)) (dp_of (de_op opr_add op2_add (dp_var 5) (dp_of de_int)))) (nomark _)) (ds_one (ds_aug 4 sc.nd de_int ip_add)) (ds_one (ds_aug 5 sc.nd de_int ip_add))))))) (ds_one (ds_retV 3)))))))
theorem sc_chosen_chunk : FnScope ["base", "left", "right", "place"] ["base", "left", "right", "place"] (defScope (topS 6)) := ⟨rfl, rfl, rfl, by decide +kernel, rfl, by decide +kernel, by decide +kernel⟩
theorem ok_chosen_chunk (T : Txt K mg) (D : All K mg) : FnOk P w K mg base (L2.CX P w) 3 D.d_chosen_chunk.f D.d_chosen_chunk.fd ["base", "left", "right", "place"] (spD K mg 4 m_chosen_chunk) := fnD (k := 2) (N := ["base", "left", "right", "place"]) (ps := ["base", "left", "right", "place"]) (gb := g_chosen_chunk) D.d_chosen_chunk.F sc_chosen_chunk fun cdv A outer s H E hr => by
  have sc := sc_chosen_chunk
  have tk : Takes (cxOf (L2.CX P w) P w K mg base ["base", "left", "right", "place"] "chosen_chunk" (defScope (topS 6)) D.d_chosen_chunk.f cdv A outer s H E) (fun cls d _ H => E cls d H) := takes_of rfl rfl rfl rfl
  have PO : PassesOwn (model P w) (cxOf (L2.CX P w) P w K mg base ["base", "left", "right", "place"] "chosen_chunk" (defScope (topS 6)) D.d_chosen_chunk.f cdv A outer s H E).A (cxOf (L2.CX P w) P w K mg base ["base", "left", "right", "place"] "chosen_chunk" (defScope (topS 6)) D.d_chosen_chunk.f cdv A outer s H E).env (cxOf (L2.CX P w) P w K mg base ["base", "left", "right", "place"] "chosen_chunk" (defScope (topS 6)) D.d_chosen_chunk.f cdv A outer s H E).xe := passes_of rfl
  exact (ds_cons (ds_if (dt_cmp (op_eqD hr.units) op2_eq (dp_var 1) (dp_var 0) (nomark _)) (ds_one (ds_retV 2)) ds_nil) (ds_cons (ds_if (PW.pt (dw_or (dt_cmp (op_eqD hr.units) op2_eq (dp_var 2) (dp_var 0) (nomark _)) (dw_or1 (dt_cmp (op_eqD hr.units) op2_eq (dp_var 1) (dp_var 2) (nomark _))))) (ds_one (ds_retV 1)) ds_nil) (ds_one (ds_raise1 T.x_Conflict (hr.mono (by decide)) tk rfl (de_var 3)))))
theorem sc_merge : FnScope ["base", "left", "right", "to_left", "to_right", "found", "at", "i", "ends", "old", "chunk"] ["base", "left", "right"] (defScope (topS 7)) := ⟨rfl, rfl, rfl, by decide +kernel, rfl, by decide +kernel, by decide +kernel⟩
theorem ok_merge (T : Txt K mg) (D : All K mg) : FnOk P w K mg base (L2.CX P w) 4 D.d_merge.f D.d_merge.fd ["base", "left", "right"] (spD K mg 3 m_merge) := fnD (k := 3) (N := ["base", "left", "right", "to_left", "to_right", "found", "at", "i", "ends", "old", "chunk"]) (ps := ["base", "left", "right"]) (gb := g_merge) D.d_merge.F sc_merge fun cdv A outer s H E hr => by
  have sc := sc_merge
  have tk : Takes (cxOf (L2.CX P w) P w K mg base ["base", "left", "right", "to_left", "to_right", "found", "at", "i", "ends", "old", "chunk"] "merge" (defScope (topS 7)) D.d_merge.f cdv A outer s H E) (fun cls d _ H => E cls d H) := takes_of rfl rfl rfl rfl
  have PO : PassesOwn (model P w) (cxOf (L2.CX P w) P w K mg base ["base", "left", "right", "to_left", "to_right", "found", "at", "i", "ends", "old", "chunk"] "merge" (defScope (topS 7)) D.d_merge.f cdv A outer s H E).A (cxOf (L2.CX P w) P w K mg base ["base", "left", "right", "to_left", "to_right", "found", "at", "i", "ends", "old", "chunk"] "merge" (defScope (topS 7)) D.d_merge.f cdv A outer s H E).env (cxOf (L2.CX P w) P w K mg base ["base", "left", "right", "to_left", "to_right", "found", "at", "i", "ends", "old", "chunk"] "merge" (defScope (topS 7)) D.d_merge.f cdv A outer s H E).xe := passes_of rfl
  exact (ds_cons (ds_set (i := 3) sc.nd (de_call (ok_partners_of T D) (hr.mono (by decide)) tk D.d_partners_of.g D.d_partners_of.F.kp D.d_partners_of.b (da_cons (de_var 0) (da_cons (de_var 1) da_nil)) (hn := runD_no))) (ds_cons (ds_set (i := 4) sc.nd (de_call (ok_partners_of T D) (hr.mono (by decide)) tk D.d_partners_of.g D.d_partners_of.F.kp D.d_partners_of.b (da_cons (de_var 0) (da_cons (de_var 2) da_nil)) (hn := runD_no))) (ds_cons (ds_set (i := 5) sc.nd (de_lst da_nil)) (ds_cons (ds_set (i := 6) sc.nd (de_tup (da_cons de_int (da_cons de_int (da_cons de_int da_nil))))) (ds_cons (ds_for (T := (.nm 7)) PO rfl (df_rng1 T.n_range (de_op opr_add op2_add (dp_of (de_len T.n_len (dp_var 0))) (dp_of de_int))) (pg_name (i := 7) sc.nd rfl (by first | exact .inl rfl | exact .inr rfl)) (ds_cons (ds_if (dt_cmp op_lt op2_intB (dp_var 7) (dp_of (de_len T.n_len (dp_var 0))) (nomark _)) (ds_one (ds_set (i := 8) sc.nd (de_tup (da_cons (de_var 7) (da_cons (de_of (dp_ix (dp_var 3) (dp_var 7))) (da_cons (de_of (dp_ix (dp_var 4) (dp_var 7))) da_nil)))))) (ds_one (ds_set (i := 8) sc.nd (de_tup (da_cons (de_var 7) (da_cons (de_len T.n_len (dp_var 1)) (da_cons (de_len T.n_len (dp_var 2)) da_nil))))))) (ds_one (ds_if (PW.pt (dw_and (dt_notN (dp_ix (dp_var 8) (dp_of de_int))) (dw_and1 (dt_notN (dp_ix (dp_var 8) (dp_of de_int)))))) (ds_cons (ds_set (i := 9) sc.nd (de_tuple T.n_tuple (dp_of (de_slice (dp_var 0) (dpo_some (de_of (dp_ix (dp_var 6) (dp_of de_int)))) (dpo_some (de_var 7)))))) (ds_cons (ds_set (i := 10) sc.nd (de_call (ok_chosen_chunk T D) (hr.mono (by decide)) tk D.d_chosen_chunk.g D.d_chosen_chunk.F.kp D.d_chosen_chunk.b (da_cons (de_var 9) (da_cons (de_tuple T.n_tuple (dp_of (de_slice (dp_var 1) (dpo_some (de_of (dp_ix (dp_var 6) (dp_of de_int)))) (dpo_some (de_of (dp_ix (dp_var 8) (dp_of de_int))))))) (da_cons (de_tuple T.n_tuple (dp_of (de_slice (dp_var 2) (dpo_some (de_of (dp_ix (dp_var 6) (dp_of de_int)))) (dpo_some (de_of (dp_ix (dp_var 8) (dp_of de_int))))))) (da_cons (de_of (dp_ix (dp_var 6) (dp_of de_int))) da_nil)))) (hn := runD_no))) (ds_cons (ds_set (i := 5) sc.nd (de_op opr_add op2_add (dp_var 5) (dp_of (de_list T.n_list (dp_var 10))))) (ds_one (ds_if (dt_cmp op_lt op2_intB (dp_var 7) (dp_of (de_len T.n_len (dp_var 0))) (nomark _)) (ds_cons (ds_app 5 (pe_bm PySem.F.plainAttrs_list PySem.F.slot_list_append PySem.F.type_list_append mt_append (pv 5) (pa_cons (de_of (dp_ix (dp_var 0) (dp_var 7))) pa_nil))) (ds_one (ds_set (i := 6) sc.nd (de_tup (da_cons (de_op opr_add op2_add (dp_var 7) (dp_of de_int)) (da_cons (de_op opr_add op2_add (dp_ix (dp_var 8) (dp_of de_int)) (dp_of de_int)) (da_cons (de_op opr_add op2_add (dp_ix (dp_var 8) (dp_of de_int)) (dp_of de_int)) da_nil))))))) ds_nil))))) ds_nil)))) (ds_one (ds_ret (de_tuple T.n_tuple (dp_var 5)))))))))
theorem sc_law_merged : FnScope ["base", "left", "right", "e"] ["base", "left", "right"] (defScope (topS 18)) := ⟨rfl, rfl, rfl, by decide +kernel, rfl, by decide +kernel, by decide +kernel⟩
theorem ok_law_merged (T : Txt K mg) (D : All K mg) : FnOk P w K mg base (L2.CX P w) 5 D.d_law_merged.f D.d_law_merged.fd ["base", "left", "right"] (spD K mg 3 m_law_merged) := fnD (k := 4) (N := ["base", "left", "right", "e"]) (ps := ["base", "left", "right"]) (gb := g_law_merged) D.d_law_merged.F sc_law_merged fun cdv A outer s H E hr => by
  have sc := sc_law_merged
  have tk : Takes (cxOf (L2.CX P w) P w K mg base ["base", "left", "right", "e"] "_law_merged" (defScope (topS 18)) D.d_law_merged.f cdv A outer s H E) (fun cls d _ H => E cls d H) := takes_of rfl rfl rfl rfl
  have PO : PassesOwn (model P w) (cxOf (L2.CX P w) P w K mg base ["base", "left", "right", "e"] "_law_merged" (defScope (topS 18)) D.d_law_merged.f cdv A outer s H E).A (cxOf (L2.CX P w) P w K mg base ["base", "left", "right", "e"] "_law_merged" (defScope (topS 18)) D.d_law_merged.f cdv A outer s H E).env (cxOf (L2.CX P w) P w K mg base ["base", "left", "right", "e"] "_law_merged" (defScope (topS 18)) D.d_law_merged.f cdv A outer s H E).xe := passes_of rfl
  exact (ds_one (ds_tryF (i := 3) T.x_Conflict sc.nd (fun W pn xe tk2 _ => (ds_one (ds_ret (de_call (ok_merge T D) (hr.mono (by decide)) tk2 D.d_merge.g D.d_merge.F.kp D.d_merge.b (da_cons (de_var 0) (da_cons (de_var 1) (da_cons (de_var 2) da_nil))) (hn := runD_no)))))))
theorem sc_law : FnScope ["script", "base", "left", "right"] ["script"] (defScope (topS 19)) := ⟨rfl, rfl, rfl, by decide +kernel, rfl, by decide +kernel, by decide +kernel⟩
theorem ok_law (T : Txt K mg) (D : All K mg) : FnOk P w K mg base (L2.CX P w) 14 D.d_law.f D.d_law.fd ["script"] (spD K mg 1 m_law) := fnD (k := 13) (N := ["script", "base", "left", "right"]) (ps := ["script"]) (gb := g_law) D.d_law.F sc_law fun cdv A outer s H E hr => by
  have sc := sc_law
  have tk : Takes (cxOf (L2.CX P w) P w K mg base ["script", "base", "left", "right"] "law" (defScope (topS 19)) D.d_law.f cdv A outer s H E) (fun cls d _ H => E cls d H) := takes_of rfl rfl rfl rfl
  have PO : PassesOwn (model P w) (cxOf (L2.CX P w) P w K mg base ["script", "base", "left", "right"] "law" (defScope (topS 19)) D.d_law.f cdv A outer s H E).A (cxOf (L2.CX P w) P w K mg base ["script", "base", "left", "right"] "law" (defScope (topS 19)) D.d_law.f cdv A outer s H E).env (cxOf (L2.CX P w) P w K mg base ["script", "base", "left", "right"] "law" (defScope (topS 19)) D.d_law.f cdv A outer s H E).xe := passes_of rfl
  exact (ds_cons (ds_set (i := 1) sc.nd (de_call (ok_law_some_tree T D) (hr.mono (by decide)) tk D.d_law_some_tree.g D.d_law_some_tree.F.kp D.d_law_some_tree.b (da_cons (de_var 0) (da_cons de_int (da_cons de_int da_nil))) (hn := runD_no))) (ds_cons (ds_set (i := 2) sc.nd (de_call (ok_law_near_tree T D) (hr.mono (by decide)) tk D.d_law_near_tree.g D.d_law_near_tree.F.kp D.d_law_near_tree.b (da_cons (de_var 0) (da_cons de_int (da_cons (de_var 1) da_nil))) (hn := runD_no))) (ds_cons (ds_set (i := 3) sc.nd (de_call (ok_law_near_tree T D) (hr.mono (by decide)) tk D.d_law_near_tree.g D.d_law_near_tree.F.kp D.d_law_near_tree.b (da_cons (de_var 0) (da_cons de_int (da_cons (de_var 1) da_nil))) (hn := runD_no))) (ds_cons (ds_if (dt_cmp (op_eqD hr.units) op2_eq (dp_ix (dp_of (de_call (ok_law_draw T D) (hr.mono (by decide)) tk D.d_law_draw.g D.d_law_draw.F.kp D.d_law_draw.b (da_cons (de_var 0) (da_cons de_int (da_cons (de_lst (da_cons de_int da_nil)) da_nil))) (hn := runD_no))) (dp_of de_int)) (dp_of de_int) (nomark _)) (ds_one (ds_set (i := 3) sc.nd (de_call (ok_law_near_tree T D) (hr.mono (by decide)) tk D.d_law_near_tree.g D.d_law_near_tree.F.kp D.d_law_near_tree.b (da_cons (de_var 0) (da_cons de_int (da_cons (de_var 2) da_nil))) (hn := runD_no)))) ds_nil) (ds_cons (ds_if (dt_not (dt_val (de_call (ok_law_alike T D 12) (hr.mono (by decide)) tk D.d_law_alike.g D.d_law_alike.F.kp D.d_law_alike.b (da_cons (de_call (ok_law_merged T D) (hr.mono (by decide)) tk D.d_law_merged.g D.d_law_merged.F.kp D.d_law_merged.b (da_cons (de_var 1) (da_cons (de_var 2) (da_cons (de_var 3) da_nil))) (hn := runD_no)) (da_cons (de_call (ok_law_due T D) (hr.mono (by decide)) tk D.d_law_due.g D.d_law_due.F.kp D.d_law_due.b (da_cons (de_var 1) (da_cons (de_var 2) (da_cons (de_var 3) da_nil))) (hn := runD_no)) da_nil)) (hn := mn_law_alike 12)))) (ds_one (ds_ret de_bl)) ds_nil) (ds_cons (ds_if (PW.pt (dw_or (dt_not (dt_val (de_call (ok_law_alike T D 12) (hr.mono (by decide)) tk D.d_law_alike.g D.d_law_alike.F.kp D.d_law_alike.b (da_cons (de_call (ok_law_merged T D) (hr.mono (by decide)) tk D.d_law_merged.g D.d_law_merged.F.kp D.d_law_merged.b (da_cons (de_var 1) (da_cons (de_var 1) (da_cons (de_var 3) da_nil))) (hn := runD_no)) (da_cons (de_var 3) da_nil)) (hn := mn_law_alike 12)))) (dw_or1 (dt_not (dt_val (de_call (ok_law_alike T D 12) (hr.mono (by decide)) tk D.d_law_alike.g D.d_law_alike.F.kp D.d_law_alike.b (da_cons (de_call (ok_law_merged T D) (hr.mono (by decide)) tk D.d_law_merged.g D.d_law_merged.F.kp D.d_law_merged.b (da_cons (de_var 1) (da_cons (de_var 2) (da_cons (de_var 1) da_nil))) (hn := runD_no)) (da_cons (de_var 2) da_nil)) (hn := mn_law_alike 12))))))) (ds_one (ds_ret de_bl)) ds_nil) (ds_one (ds_ret (de_call (ok_law_alike T D 12) (hr.mono (by decide)) tk D.d_law_alike.g D.d_law_alike.F.kp D.d_law_alike.b (da_cons (de_call (ok_law_merged T D) (hr.mono (by decide)) tk D.d_law_merged.g D.d_law_merged.F.kp D.d_law_merged.b (da_cons (de_var 1) (da_cons (de_var 2) (da_cons (de_var 2) da_nil))) (hn := runD_no)) (da_cons (de_var 2) da_nil)) (hn := mn_law_alike 12))))))))))
end
end K92
namespace K92
open PySem PySem.Spec PyProof.Rows L2 DL
theorem all_mk {P : Program} {w : World} {K : PySem.W.Frag} {h : Heap} {mg : Str → Option Value} {fa : Addr} (X : K.In h) (G : h.Ns mainGlobals mg) (hfa : mg "law" = some (.ref fa))
    {f0 : Addr} {od0 an0 : Option Addr} {sl0 : Array (Option Value)} {oc0 kV0 dc0 pm0 cd0 ct0 : Value}
    {f1 : Addr} {od1 an1 : Option Addr} {sl1 : Array (Option Value)} {oc1 kV1 dc1 pm1 cd1 ct1 : Value}
    {f2 : Addr} {od2 an2 : Option Addr} {sl2 : Array (Option Value)} {oc2 kV2 dc2 pm2 cd2 ct2 : Value}
    {f3 : Addr} {od3 an3 : Option Addr} {sl3 : Array (Option Value)} {oc3 kV3 dc3 pm3 cd3 ct3 : Value}
    {f4 : Addr} {od4 an4 : Option Addr} {sl4 : Array (Option Value)} {oc4 kV4 dc4 pm4 cd4 ct4 : Value}
    {f5 : Addr} {od5 an5 : Option Addr} {sl5 : Array (Option Value)} {oc5 kV5 dc5 pm5 cd5 ct5 : Value}
    {f6 : Addr} {od6 an6 : Option Addr} {sl6 : Array (Option Value)} {oc6 kV6 dc6 pm6 cd6 ct6 : Value}
    {f7 : Addr} {od7 an7 : Option Addr} {sl7 : Array (Option Value)} {oc7 kV7 dc7 pm7 cd7 ct7 : Value}
    {f8 : Addr} {od8 an8 : Option Addr} {sl8 : Array (Option Value)} {oc8 kV8 dc8 pm8 cd8 ct8 : Value}
    {f9 : Addr} {od9 an9 : Option Addr} {sl9 : Array (Option Value)} {oc9 kV9 dc9 pm9 cd9 ct9 : Value}
    {f10 : Addr} {od10 an10 : Option Addr} {sl10 : Array (Option Value)} {oc10 kV10 dc10 pm10 cd10 ct10 : Value}
    {f11 : Addr} {od11 an11 : Option Addr} {sl11 : Array (Option Value)} {oc11 kV11 dc11 pm11 cd11 ct11 : Value}
    {f12 : Addr} {od12 an12 : Option Addr} {sl12 : Array (Option Value)} {oc12 kV12 dc12 pm12 cd12 ct12 : Value}
    {f13 : Addr} {od13 an13 : Option Addr} {sl13 : Array (Option Value)} {oc13 kV13 dc13 pm13 cd13 ct13 : Value}
    {f14 : Addr} {od14 an14 : Option Addr} {sl14 : Array (Option Value)} {oc14 kV14 dc14 pm14 cd14 ct14 : Value}
    {C0 W0 N0 g0 : Addr} {nm0 q0 : Str} {bs0 : List Value} {sn0 : List Str} {sub0 : List Value} {ab0 : Bool} {col0 : Option Bool} {dd0 : Option Addr} {m00 m10 m20 m30 m50 : Option Value} {xod0 xan0 : Option Addr} {xsl0 : Array (Option Value)} {xoc0 xkV0 xdc0 xpm0 xcd0 xct0 : Value}
    (a0 : PySem.W.nsIn K mainGlobals "_law_cell" = some (some (.ref f0)))
    (l0 : K.lookup f0 = some ⟨oc0, od0, .func (PySem.W.fnOf "_law_cell" "_law_cell" (defArgs (topS 12)) (defBody (topS 12)) (defScope (topS 12)) .none kV0 dc0 pm0 an0 cd0 ct0), sl0⟩)
    (c0 : PySem.W.codeIn K cd0 "_law_cell" = true)
    (k0 : PySem.W.keepIn K (.ref f0) = true)
    (a1 : PySem.W.nsIn K mainGlobals "_law_draw" = some (some (.ref f1)))
    (l1 : K.lookup f1 = some ⟨oc1, od1, .func (PySem.W.fnOf "_law_draw" "_law_draw" (defArgs (topS 13)) (defBody (topS 13)) (defScope (topS 13)) .none kV1 dc1 pm1 an1 cd1 ct1), sl1⟩)
    (c1 : PySem.W.codeIn K cd1 "_law_draw" = true)
    (k1 : PySem.W.keepIn K (.ref f1) = true)
    (a2 : PySem.W.nsIn K mainGlobals "_law_pool" = some (some (.ref f2)))
    (l2 : K.lookup f2 = some ⟨oc2, od2, .func (PySem.W.fnOf "_law_pool" "_law_pool" (defArgs (topS 11)) (defBody (topS 11)) (defScope (topS 11)) .none kV2 dc2 pm2 an2 cd2 ct2), sl2⟩)
    (c2 : PySem.W.codeIn K cd2 "_law_pool" = true)
    (k2 : PySem.W.keepIn K (.ref f2) = true)
    (a3 : PySem.W.nsIn K mainGlobals "_law_some_tree" = some (some (.ref f3)))
    (l3 : K.lookup f3 = some ⟨oc3, od3, .func (PySem.W.fnOf "_law_some_tree" "_law_some_tree" (defArgs (topS 14)) (defBody (topS 14)) (defScope (topS 14)) .none kV3 dc3 pm3 an3 cd3 ct3), sl3⟩)
    (c3 : PySem.W.codeIn K cd3 "_law_some_tree" = true)
    (k3 : PySem.W.keepIn K (.ref f3) = true)
    (a4 : PySem.W.nsIn K mainGlobals "_law_near_tree" = some (some (.ref f4)))
    (l4 : K.lookup f4 = some ⟨oc4, od4, .func (PySem.W.fnOf "_law_near_tree" "_law_near_tree" (defArgs (topS 15)) (defBody (topS 15)) (defScope (topS 15)) .none kV4 dc4 pm4 an4 cd4 ct4), sl4⟩)
    (c4 : PySem.W.codeIn K cd4 "_law_near_tree" = true)
    (k4 : PySem.W.keepIn K (.ref f4) = true)
    (a5 : PySem.W.nsIn K mainGlobals "_law_alike" = some (some (.ref f5)))
    (l5 : K.lookup f5 = some ⟨oc5, od5, .func (PySem.W.fnOf "_law_alike" "_law_alike" (defArgs (topS 16)) (defBody (topS 16)) (defScope (topS 16)) .none kV5 dc5 pm5 an5 cd5 ct5), sl5⟩)
    (c5 : PySem.W.codeIn K cd5 "_law_alike" = true)
    (k5 : PySem.W.keepIn K (.ref f5) = true)
    (a6 : PySem.W.nsIn K mainGlobals "_law_table_of" = some (some (.ref f6)))
    (l6 : K.lookup f6 = some ⟨oc6, od6, .func (PySem.W.fnOf "_law_table_of" "_law_table_of" (defArgs (topS 9)) (defBody (topS 9)) (defScope (topS 9)) .none kV6 dc6 pm6 an6 cd6 ct6), sl6⟩)
    (c6 : PySem.W.codeIn K cd6 "_law_table_of" = true)
    (k6 : PySem.W.keepIn K (.ref f6) = true)
    (a7 : PySem.W.nsIn K mainGlobals "_law_partners" = some (some (.ref f7)))
    (l7 : K.lookup f7 = some ⟨oc7, od7, .func (PySem.W.fnOf "_law_partners" "_law_partners" (defArgs (topS 10)) (defBody (topS 10)) (defScope (topS 10)) .none kV7 dc7 pm7 an7 cd7 ct7), sl7⟩)
    (c7 : PySem.W.codeIn K cd7 "_law_partners" = true)
    (k7 : PySem.W.keepIn K (.ref f7) = true)
    (a8 : PySem.W.nsIn K mainGlobals "_law_due" = some (some (.ref f8)))
    (l8 : K.lookup f8 = some ⟨oc8, od8, .func (PySem.W.fnOf "_law_due" "_law_due" (defArgs (topS 17)) (defBody (topS 17)) (defScope (topS 17)) .none kV8 dc8 pm8 an8 cd8 ct8), sl8⟩)
    (c8 : PySem.W.codeIn K cd8 "_law_due" = true)
    (k8 : PySem.W.keepIn K (.ref f8) = true)
    (a9 : PySem.W.nsIn K mainGlobals "common_lengths" = some (some (.ref f9)))
    (l9 : K.lookup f9 = some ⟨oc9, od9, .func (PySem.W.fnOf "common_lengths" "common_lengths" (defArgs (topS 4)) (defBody (topS 4)) (defScope (topS 4)) .none kV9 dc9 pm9 an9 cd9 ct9), sl9⟩)
    (c9 : PySem.W.codeIn K cd9 "common_lengths" = true)
    (k9 : PySem.W.keepIn K (.ref f9) = true)
    (a10 : PySem.W.nsIn K mainGlobals "partners_of" = some (some (.ref f10)))
    (l10 : K.lookup f10 = some ⟨oc10, od10, .func (PySem.W.fnOf "partners_of" "partners_of" (defArgs (topS 5)) (defBody (topS 5)) (defScope (topS 5)) .none kV10 dc10 pm10 an10 cd10 ct10), sl10⟩)
    (c10 : PySem.W.codeIn K cd10 "partners_of" = true)
    (k10 : PySem.W.keepIn K (.ref f10) = true)
    (a11 : PySem.W.nsIn K mainGlobals "chosen_chunk" = some (some (.ref f11)))
    (l11 : K.lookup f11 = some ⟨oc11, od11, .func (PySem.W.fnOf "chosen_chunk" "chosen_chunk" (defArgs (topS 6)) (defBody (topS 6)) (defScope (topS 6)) .none kV11 dc11 pm11 an11 cd11 ct11), sl11⟩)
    (c11 : PySem.W.codeIn K cd11 "chosen_chunk" = true)
    (k11 : PySem.W.keepIn K (.ref f11) = true)
    (a12 : PySem.W.nsIn K mainGlobals "merge" = some (some (.ref f12)))
    (l12 : K.lookup f12 = some ⟨oc12, od12, .func (PySem.W.fnOf "merge" "merge" (defArgs (topS 7)) (defBody (topS 7)) (defScope (topS 7)) .none kV12 dc12 pm12 an12 cd12 ct12), sl12⟩)
    (c12 : PySem.W.codeIn K cd12 "merge" = true)
    (k12 : PySem.W.keepIn K (.ref f12) = true)
    (a13 : PySem.W.nsIn K mainGlobals "_law_merged" = some (some (.ref f13)))
    (l13 : K.lookup f13 = some ⟨oc13, od13, .func (PySem.W.fnOf "_law_merged" "_law_merged" (defArgs (topS 18)) (defBody (topS 18)) (defScope (topS 18)) .none kV13 dc13 pm13 an13 cd13 ct13), sl13⟩)
    (c13 : PySem.W.codeIn K cd13 "_law_merged" = true)
    (k13 : PySem.W.keepIn K (.ref f13) = true)
    (a14 : PySem.W.nsIn K mainGlobals "law" = some (some (.ref f14)))
    (l14 : K.lookup f14 = some ⟨oc14, od14, .func (PySem.W.fnOf "law" "law" (defArgs (topS 19)) (defBody (topS 19)) (defScope (topS 19)) .none kV14 dc14 pm14 an14 cd14 ct14), sl14⟩)
    (c14 : PySem.W.codeIn K cd14 "law" = true)
    (k14 : PySem.W.keepIn K (.ref f14) = true)
    (z_bool : PySem.W.nsIn K mainGlobals "bool" = some none)
    (z_int : PySem.W.nsIn K mainGlobals "int" = some none)
    (z_isinstance : PySem.W.nsIn K mainGlobals "isinstance" = some none)
    (z_len : PySem.W.nsIn K mainGlobals "len" = some none)
    (z_list : PySem.W.nsIn K mainGlobals "list" = some none)
    (z_max : PySem.W.nsIn K mainGlobals "max" = some none)
    (z_range : PySem.W.nsIn K mainGlobals "range" = some none)
    (z_reversed : PySem.W.nsIn K mainGlobals "reversed" = some none)
    (z_str : PySem.W.nsIn K mainGlobals "str" = some none)
    (z_tuple : PySem.W.nsIn K mainGlobals "tuple" = some none)
    (ea0 : PySem.W.nsIn K mainGlobals "Conflict" = some (some (.ref C0)))
    (el0 : K.lookup C0 = some (excClassObj nm0 q0 C0 N0 bs0 [.ref W0, .type "ValueError", .type "Exception", .type "BaseException", .type "object"] true sn0 sub0 ab0 col0 dd0 m00 m10 m20 m30 m50 "ValueError.__new__"))
    (es0 : PySem.W.findIn K (.ref C0) "__setattr__" = some (some (.builtin "object.__setattr__")))
    (eg0 : PySem.W.findIn K (.ref C0) "__getattribute__" = some (some (.builtin "BaseException.__getattribute__")))
    (eh0 : PySem.W.findIn K (.ref C0) "__getattr__" = some none)
    (en0 : PySem.W.findIn K (.ref C0) "place" = some none)
    (ei0 : PySem.W.findIn K (.ref C0) "__init__" = some (some (.ref g0)))
    (et0 : PySem.W.typeIn K (.ref g0) = some (.type "function"))
    (em0 : K.lookup g0 = some ⟨xoc0, xod0, .func (PySem.W.fnOf "__init__" "Conflict.__init__" (defArgs (inClass (topS 2) 0)) (defBody (inClass (topS 2) 0)) (defScope (inClass (topS 2) 0)) .none xkV0 xdc0 xpm0 xan0 xcd0 xct0), xsl0⟩)
    (eo0 : PySem.W.codeIn K xcd0 "Conflict.__init__" = true)
    (ej0 : PySem.W.keepIn K (.ref g0) = true)
    (ek0 : PySem.W.keepIn K (.ref C0) = true)
    (eb0 : PySem.W.subIn K (.ref C0) (.type "BaseException") = some true)
    (ey0 : PySem.W.typeIn K (.ref C0) = some (.type "type"))
    (ed0 : PySem.W.hasDictIn K C0 = true)
    (ec0 : PySem.W.isClsIn K C0 = true)
    (ez0 : PySem.W.subIn K (.ref C0) (.ref C0) = some true) :
    ∃ fd : FuncData, (∀ (s : Shared) (v : Value), BindsTo s fd ⟨[v], []⟩ [("script", v)]) ∧ ∀ base : Heap, K.In base → base.Ns mainGlobals mg → FnOk P w K mg base (L2.CX P w) 14 fa fd ["script"] (spLaw K) := by
  have e := hfa.symm.trans (PySem.W.mg_of X G a14)
  cases e
  have T : Txt K mg := { n_bool := PySem.W.mg_none_of X G z_bool, n_int := PySem.W.mg_none_of X G z_int, n_isinstance := PySem.W.mg_none_of X G z_isinstance, n_len := PySem.W.mg_none_of X G z_len, n_list := PySem.W.mg_none_of X G z_list, n_max := PySem.W.mg_none_of X G z_max, n_range := PySem.W.mg_none_of X G z_range, n_reversed := PySem.W.mg_none_of X G z_reversed, n_str := PySem.W.mg_none_of X G z_str, n_tuple := PySem.W.mg_none_of X G z_tuple, x_Conflict := ⟨⟨C0, g0, _, _, PySem.W.mg_of X G ea0, ⟨⟨nm0, q0, N0, bs0, _, sn0, sub0, ab0, col0, dd0, m00, m10, m20, m30, m50, el0, by rfl⟩, es0, eb0, ey0, ek0⟩, ⟨eg0, eh0, eb0, ed0⟩, en0, ei0, et0, fun_mk em0 eo0 ej0, (fun_mk (st := (inClass (topS 2) 0)) em0 eo0 ej0).binds (ps := ["self", "place"]) fun _ _ _ _ _ _ us hl => match us, hl with | [_, _], _ => rfl, exm_same eb0 ec0 ey0 ez0⟩, ⟨rfl, rfl, rfl, by decide +kernel, rfl, by decide +kernel, by decide +kernel⟩, ⟨_, _, _, _, rfl⟩, rfl, rfl, by decide, by decide⟩ }
  have D : { D : All K mg // D.d_law.f = fa ∧ D.d_law.fd = PySem.W.fnOf "law" "law" (defArgs (topS 19)) (defBody (topS 19)) (defScope (topS 19)) .none kV14 dc14 pm14 an14 cd14 ct14 } := ⟨{
    d_law_cell := ⟨f0, _, fun_mk l0 c0 k0, PySem.W.mg_of X G a0, (fun_mk (st := topS 12) l0 c0 k0).binds fun _ _ _ _ _ _ us hl => match us, hl with | [_, _], _ => rfl⟩,
    d_law_draw := ⟨f1, _, fun_mk l1 c1 k1, PySem.W.mg_of X G a1, (fun_mk (st := topS 13) l1 c1 k1).binds fun _ _ _ _ _ _ us hl => match us, hl with | [_, _, _], _ => rfl⟩,
    d_law_pool := ⟨f2, _, fun_mk l2 c2 k2, PySem.W.mg_of X G a2, (fun_mk (st := topS 11) l2 c2 k2).binds fun _ _ _ _ _ _ us hl => match us, hl with | [], _ => rfl⟩,
    d_law_some_tree := ⟨f3, _, fun_mk l3 c3 k3, PySem.W.mg_of X G a3, (fun_mk (st := topS 14) l3 c3 k3).binds fun _ _ _ _ _ _ us hl => match us, hl with | [_, _, _], _ => rfl⟩,
    d_law_near_tree := ⟨f4, _, fun_mk l4 c4 k4, PySem.W.mg_of X G a4, (fun_mk (st := topS 15) l4 c4 k4).binds fun _ _ _ _ _ _ us hl => match us, hl with | [_, _, _], _ => rfl⟩,
    d_law_alike := ⟨f5, _, fun_mk l5 c5 k5, PySem.W.mg_of X G a5, (fun_mk (st := topS 16) l5 c5 k5).binds fun _ _ _ _ _ _ us hl => match us, hl with | [_, _], _ => rfl⟩,
    d_law_table_of := ⟨f6, _, fun_mk l6 c6 k6, PySem.W.mg_of X G a6, (fun_mk (st := topS 9) l6 c6 k6).binds fun _ _ _ _ _ _ us hl => match us, hl with | [_, _], _ => rfl⟩,
    d_law_partners := ⟨f7, _, fun_mk l7 c7 k7, PySem.W.mg_of X G a7, (fun_mk (st := topS 10) l7 c7 k7).binds fun _ _ _ _ _ _ us hl => match us, hl with | [_, _], _ => rfl⟩,
    d_law_due := ⟨f8, _, fun_mk l8 c8 k8, PySem.W.mg_of X G a8, (fun_mk (st := topS 17) l8 c8 k8).binds fun _ _ _ _ _ _ us hl => match us, hl with | [_, _, _], _ => rfl⟩,
    d_common_lengths := ⟨f9, _, fun_mk l9 c9 k9, PySem.W.mg_of X G a9, (fun_mk (st := topS 4) l9 c9 k9).binds fun _ _ _ _ _ _ us hl => match us, hl with | [_, _], _ => rfl⟩,
    d_partners_of := ⟨f10, _, fun_mk l10 c10 k10, PySem.W.mg_of X G a10, (fun_mk (st := topS 5) l10 c10 k10).binds fun _ _ _ _ _ _ us hl => match us, hl with | [_, _], _ => rfl⟩,
    d_chosen_chunk := ⟨f11, _, fun_mk l11 c11 k11, PySem.W.mg_of X G a11, (fun_mk (st := topS 6) l11 c11 k11).binds fun _ _ _ _ _ _ us hl => match us, hl with | [_, _, _, _], _ => rfl⟩,
    d_merge := ⟨f12, _, fun_mk l12 c12 k12, PySem.W.mg_of X G a12, (fun_mk (st := topS 7) l12 c12 k12).binds fun _ _ _ _ _ _ us hl => match us, hl with | [_, _, _], _ => rfl⟩,
    d_law_merged := ⟨f13, _, fun_mk l13 c13 k13, PySem.W.mg_of X G a13, (fun_mk (st := topS 18) l13 c13 k13).binds fun _ _ _ _ _ _ us hl => match us, hl with | [_, _, _], _ => rfl⟩,
    d_law := ⟨fa, _, fun_mk l14 c14 k14, PySem.W.mg_of X G a14, (fun_mk (st := topS 19) l14 c14 k14).binds fun _ _ _ _ _ _ us hl => match us, hl with | [_], _ => rfl⟩ }, rfl, rfl⟩
  obtain ⟨D, e1, e2⟩ := D
  refine ⟨D.d_law.fd, fun s v => ?_, fun base _ _ => ?_⟩
  · rw [e2]
    exact .of_eq rfl
  · rw [← e1]
    exact law_end (ok_law T D) law_true
end K92
open PySem PySem.W PyProof.Rows
set_option maxHeartbeats 0 in
theorem PySem.Challenge.cw_wardenworks_k92_merged_trees_holds : PySem.Challenge.rw_wardenworks_k92_merged_trees.Holds := by
  w_on; o_law; k_head; (case hw => w_witness2)
  k_fill
  refine L2.walk_of (l := PySem.Challenge.rw_wardenworks_k92_merged_trees) (n := 63) (k := 14) (x := "script") (CX := fun w => L2.CX PySem.Challenge.rw_wardenworks_k92_merged_trees.prog w) (sp := fun w => DL.spLaw _) rfl (by decide) rfl ⟨rfl, by decide, by decide⟩ (fun w h Y => PySem.W.kIn_of Y) ?F (fun _ _ a ns hl _ hS => ⟨a, ns, rfl, hS, hl, fun _ => rfl⟩) (fun _ _ _ _ _ h => DL.cx_never h)
  case F =>
    intro w mg fa h KX G hmg
    refine' K92.all_mk KX G hmg ?a0 ?l0 ?c0 ?k0 ?a1 ?l1 ?c1 ?k1 ?a2 ?l2 ?c2 ?k2 ?a3 ?l3 ?c3 ?k3 ?a4 ?l4 ?c4 ?k4 ?a5 ?l5 ?c5 ?k5 ?a6 ?l6 ?c6 ?k6 ?a7 ?l7 ?c7 ?k7 ?a8 ?l8 ?c8 ?k8 ?a9 ?l9 ?c9 ?k9 ?a10 ?l10 ?c10 ?k10 ?a11 ?l11 ?c11 ?k11 ?a12 ?l12 ?c12 ?k12 ?a13 ?l13 ?c13 ?k13 ?a14 ?l14 ?c14 ?k14 ?z_bool ?z_int ?z_isinstance ?z_len ?z_list ?z_max ?z_range ?z_reversed ?z_str ?z_tuple ?ea0 ?el0 ?es0 ?eg0 ?eh0 ?en0 ?ei0 ?et0 ?em0 ?eo0 ?ej0 ?ek0 ?eb0 ?ey0 ?ed0 ?ec0 ?ez0
    (case a0 => k_is)
    (case l0 => k_is)
    (case c0 => k_is)
    (case k0 => k_is)
    (case a1 => k_is)
    (case l1 => k_is)
    (case c1 => k_is)
    (case k1 => k_is)
    (case a2 => k_is)
    (case l2 => k_is)
    (case c2 => k_is)
    (case k2 => k_is)
    (case a3 => k_is)
    (case l3 => k_is)
    (case c3 => k_is)
    (case k3 => k_is)
    (case a4 => k_is)
    (case l4 => k_is)
    (case c4 => k_is)
    (case k4 => k_is)
    (case a5 => k_is)
    (case l5 => k_is)
    (case c5 => k_is)
    (case k5 => k_is)
    (case a6 => k_is)
    (case l6 => k_is)
    (case c6 => k_is)
    (case k6 => k_is)
    (case a7 => k_is)
    (case l7 => k_is)
    (case c7 => k_is)
    (case k7 => k_is)
    (case a8 => k_is)
    (case l8 => k_is)
    (case c8 => k_is)
    (case k8 => k_is)
    (case a9 => k_is)
    (case l9 => k_is)
    (case c9 => k_is)
    (case k9 => k_is)
    (case a10 => k_is)
    (case l10 => k_is)
    (case c10 => k_is)
    (case k10 => k_is)
    (case a11 => k_is)
    (case l11 => k_is)
    (case c11 => k_is)
    (case k11 => k_is)
    (case a12 => k_is)
    (case l12 => k_is)
    (case c12 => k_is)
    (case k12 => k_is)
    (case a13 => k_is)
    (case l13 => k_is)
    (case c13 => k_is)
    (case k13 => k_is)
    (case a14 => k_is)
    (case l14 => k_is)
    (case c14 => k_is)
    (case k14 => k_is)
    (case z_bool => k_is)
    (case z_int => k_is)
    (case z_isinstance => k_is)
    (case z_len => k_is)
    (case z_list => k_is)
    (case z_max => k_is)
    (case z_range => k_is)
    (case z_reversed => k_is)
    (case z_str => k_is)
    (case z_tuple => k_is)
    (case ea0 => k_is)
    (case el0 => k_is)
    (case es0 => k_is)
    (case eg0 => k_is)
    (case eh0 => k_is)
    (case en0 => k_is)
    (case ei0 => k_is)
    (case et0 => k_is)
    (case em0 => k_is)
    (case eo0 => k_is)
    (case ej0 => k_is)
    (case ek0 => k_is)
    (case eb0 => k_is)
    (case ey0 => k_is)
    (case ed0 => k_is)
    (case ec0 => k_is)
    (case ez0 => first | rfl | k_is)
