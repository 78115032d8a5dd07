import PyProof.Rows.All
import HandS.ForMost
import HandS.Exc
import HandS.ExcOwn
import HandS.TryOnly
import HandS.WordsExc
import HandS.TupAny
import HandS.IsInst
import HandS.RevRange
import HandS.ExcInit
import HandS.ExcField
import HandS.CallLocal
import HandS.Conv
import HandS.Deep
import HandS.Iter
import HandS.RaiseMore
import HandS.SetFor
import HandS.SortInts
import HandS.SortKw
import HandS.Strs
import HandS.Text
import KE.DataMinMax
import KE.KDictCopyH
import KE.KDictKeyed
import KE.KeyNested
import PyProof.ReprReads
import PyProof.ReprRoads
import PySem.Challenge.RW_wardenworks_k89_joined_monitors
set_option Elab.async false
set_option linter.all false
set_option maxRecDepth 100000
/-! ## DL, part 1: data, cells, results (plain functions) -/
namespace DL
open PySem
abbrev D := PyData
/-- what a slot holds: nothing that is told, data that nobody changes, a list of the frame's own, a list of own lists, an own dict, own tuples, lists and instances with own parts, what is lent for changing (as the frame's k-th), an exception -/
inductive Cell where
  | un
  | d (x : D)
  | own (xs : List D)
  | own2 (xss : List (List D))
  | dic (kvs : List (D × D))
  | tup (cs : List Cell)
  | lst (cs : List Cell)
  | ins (c : Str) (ns : List Str) (cs : List Cell)
  | par (k : Nat) (c : Cell)
  | exc (a dd : Addr) (f : Str) (x : D)
  | fn (k : Nat)
abbrev Env := List Cell
mutual
/-- nothing that is lent in it, no exception -/
def Cell.plain : Cell → Bool
  | .un => false
  | .d _ => true
  | .own _ => true
  | .own2 _ => true
  | .dic _ => true
  | .tup cs => plainAll cs
  | .lst cs => plainAll cs
  | .ins _ _ cs => plainAll cs
  | .par _ _ => false
  | .exc _ _ _ _ => false
  | .fn _ => false
def plainAll : List Cell → Bool
  | [] => true
  | c :: cs => c.plain && plainAll cs
end
/-- a result: none told, a value, an exception of the class named k with its fields -/
inductive R (α : Type) where
  | no
  | ok (a : α)
  | ex (k : Str) (fs : List (Str × D))
def R.bind {α β : Type} : R α → (α → R β) → R β
  | .no, _ => .no
  | .ok a, f => f a
  | .ex k fs, _ => .ex k fs
@[simp] theorem R.bind_ok {α β : Type} (a : α) (f : α → R β) : (R.ok a).bind f = f a := rfl
@[simp] theorem R.bind_no {α β : Type} (f : α → R β) : (R.no : R α).bind f = .no := rfl
@[simp] theorem R.bind_ex {α β : Type} (k : Str) (fs : List (Str × D)) (f : α → R β) : (R.ex k fs : R α).bind f = .ex k fs := rfl
/-- a statement's result -/
inductive Out where
  | no
  | nx (e : Env)
  | rt (c : Cell)
  | re (c : Cell) (e : Env)
  | bk (e : Env)
  | ct (e : Env)
  | ex (k : Str) (fs : List (Str × D)) (e : Env)
/-- an expression's result within a statement -/
def R.into {α : Type} (r : R α) (e : Env) (f : α → Out) : Out :=
  match r with
  | .no => .no
  | .ok a => f a
  | .ex k fs => .ex k fs e
@[simp] theorem R.into_ok {α : Type} (a : α) (e : Env) (f : α → Out) : (R.ok a).into e f = f a := rfl
@[simp] theorem R.into_no {α : Type} (e : Env) (f : α → Out) : (R.no : R α).into e f = .no := rfl
@[simp] theorem R.into_ex {α : Type} (k : Str) (fs : List (Str × D)) (e : Env) (f : α → Out) : (R.ex k fs : R α).into e f = .ex k fs e := rfl
def Out.andThen (o : Out) (f : Env → Out) : Out :=
  match o with
  | .nx e => f e
  | o => o
@[simp] theorem Out.andThen_nx (e : Env) (f : Env → Out) : (Out.nx e).andThen f = f e := rfl
@[simp] theorem Out.andThen_no (f : Env → Out) : Out.no.andThen f = .no := rfl
@[simp] theorem Out.andThen_rt (c : Cell) (f : Env → Out) : (Out.rt c).andThen f = .rt c := rfl
@[simp] theorem Out.andThen_re (c : Cell) (e : Env) (f : Env → Out) : (Out.re c e).andThen f = .re c e := rfl
@[simp] theorem Out.andThen_bk (e : Env) (f : Env → Out) : (Out.bk e).andThen f = .bk e := rfl
@[simp] theorem Out.andThen_ct (e : Env) (f : Env → Out) : (Out.ct e).andThen f = .ct e := rfl
@[simp] theorem Out.andThen_ex (k : Str) (fs : List (Str × D)) (e : Env) (f : Env → Out) : (Out.ex k fs e).andThen f = .ex k fs e := rfl

/-- as data that is only read -/
def Cell.view : Cell → Option D
  | .un => none
  | .d x => some x
  | .own xs => some (.list xs)
  | .own2 xss => some (.list (xss.map .list))
  | _ => none
def Cell.items : Cell → Option (List D)
  | .d (.list xs) => some xs
  | .d (.tuple xs) => some xs
  | .own xs => some xs
  | _ => none
def getC (i : Nat) (e : Env) : R Cell := match e[i]? with
  | some .un => .no
  | some (.exc _ _ _ _) => .no
  | some (.fn _) => .no
  | some (.par _ c) => .ok c
  | some c => .ok c
  | none => .no
def Cell.val : Cell → R Cell
  | .d x => .ok (.d x)
  | _ => .no
def varD (i : Nat) (e : Env) : R Cell := (getC i e).bind Cell.val
def cstD (x : D) (_ : Env) : R Cell := .ok (.d x)
def freezeC : Cell → Cell
  | .own xs => .d (.list xs)
  | .own2 xss => .d (.list (xss.map .list))
  | c => c
def freeze (i : Nat) (e : Env) : Env := match e[i]? with
  | some c => e.set i (freezeC c)
  | none => e
def intI (f : Int → Int → Int) (x y : Cell) : R Cell := match x, y with
  | .d (.int i), .d (.int j) => .ok (.d (.int (f i j)))
  | _, _ => .no
def intB (f : Int → Int → Bool) (x y : Cell) : R Cell := match x, y with
  | .d (.int i), .d (.int j) => .ok (.d (.bool (f i j)))
  | _, _ => .no
def mulD (x y : Cell) : R Cell := match x, y with
  | .d (.int i), .d (.int j) => if (-(2 ^ 64) < i ∧ i < 2 ^ 64) ∨ (-(2 ^ 64) < j ∧ j < 2 ^ 64) then .ok (.d (.int (i * j))) else .no
  | c, .d (.int k) => match c with
    | .own xs => if -(2 ^ 63) ≤ k ∧ k < 2 ^ 63 ∧ xs.length * k.toNat ≤ 16777216 then .ok (.own (List.replicate k.toNat xs).flatten) else .no
    | _ => .no
  | _, _ => .no
def divD (x y : Cell) : R Cell := match x, y with
  | .d (.int i), .d (.int j) => if 0 < j ∧ j < 1073741824 then .ok (.d (.int (i / j))) else .no
  | _, _ => .no
def modD (x y : Cell) : R Cell := match x, y with
  | .d (.int i), .d (.int j) => if 0 < j then .ok (.d (.int (i % j))) else .no
  | _, _ => .no
def powD (x y : Cell) : R Cell := match x, y with
  | .d (.int i), .d (.int j) => if 0 ≤ j ∧ j ≤ 1000000 ∧ i.natAbs < 2 ^ 64 then .ok (.d (.int (i ^ j.toNat))) else .no
  | _, _ => .no
def negD (x : Cell) : R Cell := match x with
  | .d (.int i) => .ok (.d (.int (-i)))
  | _ => .no
def catL : Cell → Option (List D)
  | .own xs => some xs
  | .d (.list xs) => some xs
  | _ => none
/-- + of ints, texts, tuples, lists -/
def addD (x y : Cell) : R Cell := match x, y with
  | .d (.int i), .d (.int j) => .ok (.d (.int (i + j)))
  | .d (.str s), .d (.str t) => if s.length + t.length ≤ 16777216 then .ok (.d (.str (s ++ t))) else .no
  | .d (.tuple xs), .d (.tuple ys) => if xs.length + ys.length ≤ 16777216 then .ok (.d (.tuple (xs ++ ys))) else .no
  | c, d => match catL c, catL d with
    | some xs, some ys => if xs.length + ys.length ≤ 16777216 then .ok (.own (xs ++ ys)) else .no
    | _, _ => .no
def eqD (x y : Cell) : R Cell := match x.view, y.view with
  | some a, some b => if SeqAt.shaped a = true ∧ SeqAt.shaped b = true then .ok (.d (.bool (PyData.eqv a b))) else .no
  | _, _ => .no
def neD (x y : Cell) : R Cell := match x.view, y.view with
  | some a, some b => if SeqAt.shaped a = true ∧ SeqAt.shaped b = true then .ok (.d (.bool (!PyData.eqv a b))) else .no
  | _, _ => .no
def isNoneD (x : Cell) : R Cell := match x with
  | .un => .no
  | .d .none => .ok (.d (.bool true))
  | _ => .ok (.d (.bool false))
def notNoneD (x : Cell) : R Cell := match x with
  | .un => .no
  | .d .none => .ok (.d (.bool false))
  | _ => .ok (.d (.bool true))
/-- the place of an index -/
def ixD {α : Type} (xs : List α) (i : Int) : Option α := L2.atI xs i
def idxD (x y : Cell) : R Cell := match y with
  | .d (.int i) => match x with
    | .d (.list xs) => match L2.atI xs i with | some v => .ok (.d v) | none => .no
    | .d (.tuple xs) => match L2.atI xs i with | some v => .ok (.d v) | none => .no
    | .own xs => match L2.atI xs i with | some v => .ok (.d v) | none => .no
    | .own2 xss => match L2.atI xss i with | some v => .ok (.own v) | none => .no
    | _ => .no
  | _ => .no
def lenD (x : Cell) : R Cell := match x with
  | .d (.list xs) => .ok (.d (.int xs.length))
  | .d (.tuple xs) => .ok (.d (.int xs.length))
  | .d (.str s) => if s.length ≤ 16777216 then .ok (.d (.int s.length)) else .no
  | .own xs => .ok (.d (.int xs.length))
  | .own2 xss => .ok (.d (.int xss.length))
  | _ => .no
def maxD (x y : Cell) : R Cell := intI (fun i j => if j > i then j else i) x y
def minD (x y : Cell) : R Cell := intI (fun i j => if j < i then j else i) x y
def listD (x : Cell) : R Cell := match x.items with
  | some xs => .ok (.own xs)
  | none => .no
def tupleD (x : Cell) : R Cell := match x.items with
  | some xs => .ok (.d (.tuple xs))
  | none => .no
def cutD {α : Type} (xs : List α) (lo hi : Option Int) : List α := (xs.drop (HT.sIx xs.length 0 lo)).take (HT.sIx xs.length xs.length hi - HT.sIx xs.length 0 lo)
def sliceD (x : Cell) (lo hi : Option Int) : R Cell := match x with
  | .d (.list xs) => .ok (.own (cutD xs lo hi))
  | .own xs => .ok (.own (cutD xs lo hi))
  | .d (.tuple xs) => .ok (.d (.tuple (cutD xs lo hi)))
  | _ => .no
def isiD (n : String) (x : Cell) : R Cell := match x with
  | .un => .no
  | .d .none => .ok (.d (.bool false))
  | .d (.bool _) => .ok (.d (.bool (n == "bool" || n == "int")))
  | .d (.int _) => .ok (.d (.bool (n == "int")))
  | .d (.str _) => .ok (.d (.bool (n == "str")))
  | .d (.list _) => .ok (.d (.bool (n == "list")))
  | .d (.tuple _) => .ok (.d (.bool (n == "tuple")))
  | .d (.dict _) => .no
  | .own _ => .ok (.d (.bool (n == "list")))
  | .own2 _ => .ok (.d (.bool (n == "list")))
  | _ => .no
def asB (x : Cell) : R Bool := match x with
  | .d (.bool b) => .ok b
  | _ => .no
def boolD (b : Bool) : R Cell := .ok (.d (.bool b))
def asD : Cell → R D
  | .d x => .ok x
  | .own xs => .ok (.list xs)
  | .own2 xss => .ok (.list (xss.map .list))
  | _ => .no
/-- a value with no place in the heap -/
def Cell.flat : Cell → Bool
  | .d .none => true
  | .d (.bool _) => true
  | .d (.int _) => true
  | .d (.str _) => true
  | _ => false
/-- f over the items, in order -/
def mapR {α β : Type} (f : α → R β) : List α → R (List β)
  | [] => .ok []
  | x :: xs => (f x).bind fun y => (mapR f xs).bind fun ys => .ok (y :: ys)
/-- .. of those for which t holds -/
def mapIf {α β : Type} (t : α → R Bool) (f : α → R β) : List α → R (List β)
  | [] => .ok []
  | x :: xs => (t x).bind fun b => if b = true then (f x).bind fun y => (mapIf t f xs).bind fun ys => .ok (y :: ys) else mapIf t f xs
/-- a for over items -/
def forD (g : D → Env → Out) : List D → Env → Out
  | [], e => .nx e
  | x :: xs, e => match g x e with
    | .nx e' => forD g xs e'
    | .ct e' => forD g xs e'
    | .bk e' => .nx e'
    | o => o
/-- a while: at most n turns -/
def whileD (c : Env → R Bool) (g : Env → Out) : Nat → Env → Out
  | 0, _ => .no
  | n + 1, e => (c e).into e fun b => if b = true then
      (match g e with
      | .nx e' => whileD c g n e'
      | .ct e' => whileD c g n e'
      | .bk e' => .nx e'
      | o => o) else .nx e
def upFrom (lo : Int) (n : Nat) : List D := (List.range n).map fun i => .int (lo + (i : Nat))
def stepFrom (lo c : Int) (n : Nat) : List D := (List.range n).map fun i => .int (lo + (i : Nat) * c)
/-- a range's items -/
def rng1D (x : Cell) : R (List D) := match x with
  | .d (.int j) => if -(2 ^ 62) ≤ j ∧ j < 2 ^ 62 then .ok (upFrom 0 j.toNat) else .no
  | _ => .no
def rng2D (x y : Cell) : R (List D) := match x, y with
  | .d (.int i), .d (.int j) => if -(2 ^ 62) ≤ i ∧ i < 2 ^ 62 ∧ -(2 ^ 62) ≤ j ∧ j < 2 ^ 62 then .ok (upFrom i (j - i).toNat) else .no
  | _, _ => .no
/-- range(i, j, -1) -/
def rngDownD (x y z : Cell) : R (List D) := match x, y, z with
  | .d (.int i), .d (.int j), .d (.int (-1)) => if -(2 ^ 62) ≤ i ∧ i < 2 ^ 62 ∧ -(2 ^ 62) ≤ j ∧ j < 2 ^ 62 then .ok (stepFrom i (-1) (i - j).toNat) else .no
  | _, _, _ => .no
/-- reversed(range(j)) -/
def rngRevD (x : Cell) : R (List D) := match x with
  | .d (.int j) => if -(2 ^ 62) ≤ j ∧ j < 2 ^ 62 then .ok (stepFrom (0 + (((j - 0).toNat : Nat) : Int) - 1) (-1) (j - 0).toNat) else .no
  | _ => .no
def setSlot (i : Nat) (c : Cell) (e : Env) : Env := e.set i c
/-- the slots of a comprehension's own names -/
def wipeC (e : Env) : List Nat → Env
  | [] => e
  | i :: r => (wipeC e r).set i .un
/-- a target: a name, or names of a tuple's items -/
inductive Tg where
  | nm (i : Nat)
  | tp (is : List Nat)
def putAll : List Nat → List D → Env → Env
  | i :: is, x :: xs, e => putAll is xs (e.set i (.d x))
  | _, _, e => e
def Tg.put : Tg → D → Env → Option Env
  | .nm i, x, e => some (e.set i (.d x))
  | .tp is, .tuple xs, e => if xs.length = is.length then some (putAll is xs e) else none
  | .tp _, _, _ => none
def Tg.slots : Tg → List Nat
  | .nm i => [i]
  | .tp is => is
/-- a turn -/
def turnD (t : Tg) (g : Env → Out) (x : D) (e : Env) : Out := match t.put x e with
  | some e' => g e'
  | none => .no
/-- [f for t in xs if c], over the slots vs of its own names -/
def lcD (vs : List Nat) (t : Tg) (c : Env → R Bool) (f : Env → R Cell) (xs : List D) (e : Env) : R (List Cell) :=
  mapIf (fun x => match t.put x (wipeC e vs) with | some e' => c e' | none => .no) (fun x => match t.put x (wipeC e vs) with | some e' => f e' | none => .no) xs
/-- as a list of data -/
def lcL (r : R (List Cell)) : R Cell := match r with
  | .ok cs => match mapR asD cs with
    | .ok ds => if ds.length ≤ 16777216 then .ok (.own ds) else .no
    | _ => .no
  | _ => .no
/-- as a list of own lists -/
def asRow (c : Cell) : R (List D) := match c with
  | .own xs => .ok xs
  | _ => .no
def lcR (r : R (List Cell)) : R Cell := match r with
  | .ok cs => match mapR asRow cs with
    | .ok ds => if ds.length ≤ 16777216 then .ok (.own2 ds) else .no
    | _ => .no
  | _ => .no
def itemsR (c : Cell) : R (List D) := match c.items with
  | some xs => .ok xs
  | none => .no
/-! ### dicts -/
mutual
/-- data as a key, up to == -/
def keyOf : D → Option NestedKey
  | .none => some .none
  | .bool b => some (.num (if b = true then 1 else 0))
  | .int i => some (.num i)
  | .str s => some (.text s)
  | .tuple xs => (keysOf xs).map .tup
  | .list _ => none
  | .dict _ => none
def keysOf : List D → Option (List NestedKey)
  | [] => some []
  | x :: xs => match keyOf x, keysOf xs with
    | some k, some ks => some (k :: ks)
    | _, _ => none
end
/-- a dict's key: an int, a text, None, a tuple of such (and of bools), to depth 8 -/
def keyTop (x : D) : Option NestedKey := match x with
  | .bool _ => none
  | x => match keyOf x with
    | some k => if k.depth ≤ 8 then some k else none
    | none => none
def isTup : D → Bool
  | .tuple _ => true
  | _ => false
/-- keys of one kind: all tuples, or none -/
def kindOk (x : D) (kvs : List (D × D)) : Bool := kvs.all fun p => isTup p.1 == isTup x
def dget (kvs : List (D × D)) (k : NestedKey) : Option D := (kvs.find? fun p => decide (keyTop p.1 = some k)).map (·.2)
def dput (kvs : List (D × D)) (k : NestedKey) (x y : D) : List (D × D) :=
  if (dget kvs k).isSome = true then kvs.map (fun p => if keyTop p.1 = some k then (p.1, y) else p) else kvs ++ [(x, y)]
/-- the invariant of a dict's keys -/
def KeysOk (kvs : List (D × D)) : Prop := (∀ p ∈ kvs, ∃ k, keyTop p.1 = some k) ∧ (kvs.map fun p => keyTop p.1).Nodup ∧ ((∀ p ∈ kvs, isTup p.1 = true) ∨ ∀ p ∈ kvs, isTup p.1 = false)
/-- the key x of the dict kvs -/
def asKey (x : D) (kvs : List (D × D)) : Option NestedKey := match keyTop x with
  | some k => if kindOk x kvs = true then some k else none
  | none => none
end DL
/-! ## DL, part 2: cells over the heap -/
namespace DL
open PySem PySem.Spec PyProof.Rows L2
variable {K : PySem.W.Frag}
/-! ### data is kept where the heap is kept -/
theorem SqL_mono {H H' : Hp} {a : Addr} {xs : List V} (e : Same H H') (h : SqL K H a xs) : SqL K H' a xs := e.seq h
theorem SqT_mono {H H' : Hp} {a : Addr} {xs : List V} (e : Same H H') (h : SqT K H a xs) : SqT K H' a xs := by
  rcases h with (h | ⟨o, h⟩) | h
  · exact .inl (.inl (e _ _ h))
  · exact .inl (.inr ⟨o, e _ _ h⟩)
  · exact .inr h
mutual
theorem Dp_mono {H H' : Hp} (e : Same H H') : ∀ (d : PyData) (v : V), Dp K H v d → Dp K H' v d
  | .none, _, h => by cases h; exact .non
  | .bool b, _, h => by cases h; exact .bl b
  | .int i, _, h => by cases h; exact .int i
  | .str x, _, h => by cases h; exact .str x
  | .list ds, _, h => by
    cases h with
    | lst hs ha => exact .lst (SqL_mono e hs) (DpAll_mono e ds _ ha)
  | .tuple ds, _, h => by
    cases h with
    | tup hs ha => exact .tup (SqT_mono e hs) (DpAll_mono e ds _ ha)
  | .dict _, _, h => by cases h
theorem DpAll_mono {H H' : Hp} (e : Same H H') : ∀ (ds : List PyData) (vs : List V), DpAll K H vs ds → DpAll K H' vs ds
  | [], _, h => by cases h; exact .nil
  | d :: ds, _, h => by
    cases h with
    | cons h1 h2 => exact .cons (Dp_mono e d _ h1) (DpAll_mono e ds _ h2)
end
theorem DpAll_len {H : Hp} : ∀ {vs : List V} {ds : List PyData}, DpAll K H vs ds → vs.length = ds.length
  | _, _, .nil => rfl
  | _, _, .cons _ h => by rw [List.length_cons, List.length_cons, DpAll_len h]
theorem DpAll_get {H : Hp} : ∀ {vs : List V} {ds : List PyData} {i : Nat} {d : PyData}, DpAll K H vs ds → ds[i]? = some d → ∃ v, vs[i]? = some v ∧ Dp K H v d
  | _, _, _, _, .nil, e => by simp at e
  | _, _, 0, _, .cons h _, e => by
    simp at e
    subst e
    exact ⟨_, rfl, h⟩
  | _, _, i + 1, d, .cons _ h, e => by
    obtain ⟨v, h1, h2⟩ := DpAll_get (i := i) (d := d) h (by simpa using e)
    exact ⟨v, by simpa using h1, h2⟩
theorem DpAll_get' {H : Hp} : ∀ {vs : List V} {ds : List PyData} {i : Nat} {v : V}, DpAll K H vs ds → vs[i]? = some v → ∃ d, ds[i]? = some d ∧ Dp K H v d
  | _, _, _, _, .nil, e => by simp at e
  | _, _, 0, _, .cons h _, e => by
    simp at e
    subst e
    exact ⟨_, rfl, h⟩
  | _, _, i + 1, v, .cons _ h, e => by
    obtain ⟨d, h1, h2⟩ := DpAll_get' (i := i) (v := v) h (by simpa using e)
    exact ⟨d, by simpa using h1, h2⟩
theorem DpAll_set {H : Hp} {x : V} {d : PyData} (r : Dp K H x d) : ∀ {vs : List V} {ds : List PyData} (i : Nat), DpAll K H vs ds → DpAll K H (vs.set i x) (ds.set i d)
  | _, _, _, .nil => .nil
  | _, _, 0, .cons _ t => .cons r t
  | _, _, i + 1, .cons q t => .cons q (DpAll_set r i t)
theorem DpAll_append {H : Hp} : ∀ {vs ws : List V} {ds es : List PyData}, DpAll K H vs ds → DpAll K H ws es → DpAll K H (vs ++ ws) (ds ++ es)
  | _, _, _, _, .nil, s => s
  | _, _, _, _, .cons r t, s => .cons r (DpAll_append t s)
theorem DpAll_take {H : Hp} : ∀ {vs : List V} {ds : List PyData} (n : Nat), DpAll K H vs ds → DpAll K H (vs.take n) (ds.take n)
  | _, _, 0, _ => .nil
  | _, _, _ + 1, .nil => .nil
  | _, _, n + 1, .cons r t => .cons r (DpAll_take n t)
theorem DpAll_drop {H : Hp} : ∀ {vs : List V} {ds : List PyData} (n : Nat), DpAll K H vs ds → DpAll K H (vs.drop n) (ds.drop n)
  | _, _, 0, r => r
  | _, _, _ + 1, .nil => .nil
  | _, _, n + 1, .cons _ t => DpAll_drop n t
theorem DpAll_rep {H : Hp} {vs : List V} {ds : List PyData} (h : DpAll K H vs ds) : ∀ k : Nat, DpAll K H (List.replicate k vs).flatten (List.replicate k ds).flatten
  | 0 => .nil
  | k + 1 => by
    rw [List.replicate_succ, List.replicate_succ, List.flatten_cons, List.flatten_cons]
    exact DpAll_append h (DpAll_rep h k)
theorem Dp_seq {H : Hp} {v : V} {xs : List PyData} (h : Dp K H v (.list xs)) : ∃ a vs, v = .ref a ∧ SqL K H a vs ∧ DpAll K H vs xs := by
  cases h with
  | lst hs ha => exact ⟨_, _, rfl, hs, ha⟩
theorem Dp_tup {H : Hp} {v : V} {xs : List PyData} (h : Dp K H v (.tuple xs)) : ∃ a vs, v = .ref a ∧ SqT K H a vs ∧ DpAll K H vs xs := by
  cases h with
  | tup hs ha => exact ⟨_, _, rfl, hs, ha⟩
theorem Dp_int {H : Hp} {v : V} {i : Int} (h : Dp K H v (.int i)) : v = .int i := by cases h; rfl
theorem Dp_bool {H : Hp} {v : V} {b : Bool} (h : Dp K H v (.bool b)) : v = .bl b := by cases h; rfl
theorem Dp_str {H : Hp} {v : V} {x : Str} (h : Dp K H v (.str x)) : v = .str x := by cases h; rfl
theorem Dp_none {H : Hp} {v : V} (h : Dp K H v .none) : v = .non := by cases h; rfl
/-! ### what is hidden -/
open Classical in
/-- the heap without the objects that somebody owns -/
noncomputable def hide (H : Hp) (O : Addr → Prop) : Hp := fun a => if O a then none else H a
theorem hide_eq {H : Hp} {O : Addr → Prop} {a : Addr} {o : HO} : hide H O a = some o ↔ ¬ O a ∧ H a = some o := by
  unfold hide
  by_cases h : O a
  · simp [h]
  · simp [h]
theorem hide_same {H H' : Hp} {O O' : Addr → Prop} (e : Same H H') (h : ∀ a o, H a = some o → O' a → O a) : Same (hide H O) (hide H' O') := fun a o q => by
  obtain ⟨n, q⟩ := hide_eq.mp q
  exact hide_eq.mpr ⟨fun z => n (h a o q z), e a o q⟩
theorem hide_sub {H : Hp} {O : Addr → Prop} : Same (hide H O) H := fun _ _ q => (hide_eq.mp q).2
/-- what cells are told by: the fragment, the world, the module's names, where the lent things are -/
structure KW where
  K : PySem.W.Frag
  w : World
  mg : Str → Option Value
  la : Nat → Addr
instance : Coe KW PySem.W.Frag := ⟨KW.K⟩
end DL
abbrev L2.Cx.kw (X : L2.Cx) (la : Nat → PySem.Addr) : DL.KW := ⟨X.K, X.w, X.mg, la⟩
namespace DL
open PySem PySem.Spec PyProof.Rows L2
section
variable {K : KW}
/-- rows: own lists, one behind the other -/
def RowsR (K : KW) (H : Hp) (O : Addr → Prop) : List Addr → List (List D) → Prop
  | [], [] => True
  | a :: as, xs :: xss => (∃ vs, H a = some (.lst vs) ∧ DpAll K (hide H O) vs xs) ∧ RowsR K H O as xss
  | _, _ => False
/-- a dict's entries stand at a -/
def dicH (a : Addr) (es : List DictEntry) : Heap → Prop := fun h => (a == sysModules) = false ∧ ∃ o ep, h.get? a = some o ∧ o.ExactDict ∧ o.data = .dict es.toArray ep
/-- an entry -/
def EntR (K : KW) (G : Hp) (e : DictEntry) (p : D × D) : Prop := ∃ x y k, RelV x e.key ∧ RelV y e.val ∧ Dp K G x p.1 ∧ Dp K G y p.2 ∧ keyTop p.1 = some k ∧ e.hash = k.hash K.w
def EntsR (K : KW) (G : Hp) : List DictEntry → List (D × D) → Prop
  | [], [] => True
  | e :: es, p :: ps => EntR K G e p ∧ EntsR K G es ps
  | _, _ => False
mutual
/-- a cell's value v; os: the objects that are the cell's own; O: all that somebody owns -/
def CellR (K : KW) (H : Hp) (O : Addr → Prop) : List Addr → Cell → V → Prop
  | _, .un, _ => False
  | os, .d x, v => os = [] ∧ Dp K (hide H O) v x
  | os, .own xs, v => ∃ a vs, v = .ref a ∧ os = [a] ∧ H a = some (.lst vs) ∧ DpAll K (hide H O) vs xs
  | os, .own2 xss, v => ∃ a as, v = .ref a ∧ os = a :: as ∧ H a = some (.lst (as.map V.ref)) ∧ RowsR K H O as xss
  | os, .dic kvs, v => ∃ a es, v = .ref a ∧ os = [a] ∧ H a = some (.ext (dicH a es)) ∧ EntsR K (hide H O) es kvs ∧ KeysOk kvs ∧ kvs.length ≤ sizeLine
  | os, .tup cs, v => ∃ a vs os', v = .ref a ∧ os = a :: os' ∧ H a = some (.tup vs) ∧ CellsR K H O os' cs vs
  | os, .lst cs, v => ∃ a vs os', v = .ref a ∧ os = a :: os' ∧ H a = some (.lst vs) ∧ CellsR K H O os' cs vs
  | os, .ins c ns cs, v => ∃ a C dx vs os', v = .ref a ∧ os = a :: dx :: os' ∧ K.mg c = some (.ref C) ∧ H a = some (.ins C dx (ns.zip vs)) ∧ H dx = some (.own a) ∧ vs.length = ns.length ∧ CellsR K H O os' cs vs
  | os, .par k c, v => v = .ref (K.la k) ∧ CellR K H O os c v
  | os, .fn k, v => v = .ref (K.la k) ∧ os = []
  | os, .exc a dd f x, v => ∃ y, v = .ref a ∧ os = [] ∧ hide H O dd = some (.xd [(f, y)]) ∧ Dp K (hide H O) y x
def CellsR (K : KW) (H : Hp) (O : Addr → Prop) : List Addr → List Cell → List V → Prop
  | os, [], vs => os = [] ∧ vs = []
  | os, c :: cs, vs => ∃ v vs' o1 o2, vs = v :: vs' ∧ os = o1 ++ o2 ∧ CellR K H O o1 c v ∧ CellsR K H O o2 cs vs'
end
/-- rows whose objects stand -/
theorem RowsR_up {H H' : Hp} {O O' : Addr → Prop} (s : Same (hide H O) (hide H' O')) : ∀ {as : List Addr} {xss : List (List D)}, (∀ a ∈ as, ∀ o, H a = some o → H' a = some o) → RowsR K H O as xss → RowsR K H' O' as xss
  | [], [], _, _ => trivial
  | a :: as, xs :: xss, k, ⟨⟨vs, e, q⟩, r⟩ => ⟨⟨vs, k a List.mem_cons_self _ e, DpAll_mono s _ _ q⟩, RowsR_up s (fun b hb => k b (List.mem_cons_of_mem _ hb)) r⟩
  | [], _ :: _, _, r => r.elim
  | _ :: _, [], _, r => r.elim
theorem EntsR_mono {G G' : Hp} (s : Same G G') : ∀ {es : List DictEntry} {ps : List (D × D)}, EntsR K G es ps → EntsR K G' es ps
  | [], [], _ => trivial
  | _ :: _, _ :: _, ⟨⟨x, y, k, h1, h2, h3, h4, h5⟩, r⟩ => ⟨⟨x, y, k, h1, h2, Dp_mono s _ _ h3, Dp_mono s _ _ h4, h5⟩, EntsR_mono s r⟩
  | [], _ :: _, r => r.elim
  | _ :: _, [], r => r.elim
mutual
/-- a cell whose objects stand -/
theorem CellR_up {H H' : Hp} {O O' : Addr → Prop} (s : Same (hide H O) (hide H' O')) : ∀ (os : List Addr) (c : Cell) (v : V), (∀ a ∈ os, ∀ o, H a = some o → H' a = some o) → CellR K H O os c v → CellR K H' O' os c v
  | os, .un, v, k, r => r
  | os, .d x, v, k, r => ⟨r.1, Dp_mono s _ _ r.2⟩
  | os, .own xs, v, k, ⟨a, vs, e1, e2, e3, q⟩ => ⟨a, vs, e1, e2, k a (by rw [e2]; exact List.mem_cons_self) _ e3, DpAll_mono s _ _ q⟩
  | os, .own2 xss, v, k, ⟨a, as, e1, e2, e3, q⟩ => ⟨a, as, e1, e2, k a (by rw [e2]; exact List.mem_cons_self) _ e3, RowsR_up s (fun b hb => k b (by rw [e2]; exact List.mem_cons_of_mem _ hb)) q⟩
  | os, .dic kvs, v, k, ⟨a, es, e1, e2, e3, q, z⟩ => ⟨a, es, e1, e2, k a (by rw [e2]; exact List.mem_cons_self) _ e3, EntsR_mono s q, z⟩
  | os, .tup cs, v, k, r => by
    unfold CellR at r ⊢
    obtain ⟨a, vs, os', e1, e2, e3, q⟩ := r
    exact ⟨a, vs, os', e1, e2, k a (by rw [e2]; exact List.mem_cons_self) _ e3, CellsR_up s os' cs vs (fun b hb => k b (by rw [e2]; exact List.mem_cons_of_mem _ hb)) q⟩
  | os, .lst cs, v, k, r => by
    unfold CellR at r ⊢
    obtain ⟨a, vs, os', e1, e2, e3, q⟩ := r
    exact ⟨a, vs, os', e1, e2, k a (by rw [e2]; exact List.mem_cons_self) _ e3, CellsR_up s os' cs vs (fun b hb => k b (by rw [e2]; exact List.mem_cons_of_mem _ hb)) q⟩
  | os, .ins c ns cs, v, k, r => by
    unfold CellR at r ⊢
    obtain ⟨a, C, dx, vs, os', e1, e2, e3, e4, e5, e6, q⟩ := r
    exact ⟨a, C, dx, vs, os', e1, e2, e3, k a (by rw [e2]; exact List.mem_cons_self) _ e4, k dx (by rw [e2]; exact List.mem_cons_of_mem _ List.mem_cons_self) _ e5, e6, CellsR_up s os' cs vs (fun b hb => k b (by rw [e2]; exact List.mem_cons_of_mem _ (List.mem_cons_of_mem _ hb))) q⟩
  | os, .par j c, v, k, r => by
    unfold CellR at r ⊢
    exact ⟨r.1, CellR_up s os c v k r.2⟩
  | os, .fn j, v, k, r => by
    unfold CellR at r ⊢
    exact r
  | os, .exc a dd f x, v, k, r => by
    unfold CellR at r ⊢
    obtain ⟨y, e1, e2, e3, q⟩ := r
    exact ⟨y, e1, e2, s _ _ e3, Dp_mono s _ _ q⟩
theorem CellsR_up {H H' : Hp} {O O' : Addr → Prop} (s : Same (hide H O) (hide H' O')) : ∀ (os : List Addr) (cs : List Cell) (vs : List V), (∀ a ∈ os, ∀ o, H a = some o → H' a = some o) → CellsR K H O os cs vs → CellsR K H' O' os cs vs
  | os, [], vs, k, r => by
    unfold CellsR at r ⊢
    exact r
  | os, c :: cs, vs, k, r => by
    unfold CellsR at r ⊢
    obtain ⟨v, vs', o1, o2, e1, e2, q1, q2⟩ := r
    exact ⟨v, vs', o1, o2, e1, e2, CellR_up s o1 c v (fun b hb => k b (by rw [e2]; exact List.mem_append_left _ hb)) q1, CellsR_up s o2 cs vs' (fun b hb => k b (by rw [e2]; exact List.mem_append_right _ hb)) q2⟩
end
theorem RowsR_mono {H H' : Hp} {O O' : Addr → Prop} (s : Same H H') (h : ∀ a o, H a = some o → O' a → O a) {as : List Addr} {xss : List (List D)} (r : RowsR K H O as xss) : RowsR K H' O' as xss := RowsR_up (hide_same s h) (fun _ _ _ e => s _ _ e) r
theorem CellR_mono {H H' : Hp} {O O' : Addr → Prop} {os : List Addr} {c : Cell} {v : V} (s : Same H H') (h : ∀ a o, H a = some o → O' a → O a) (r : CellR K H O os c v) : CellR K H' O' os c v := CellR_up (hide_same s h) _ _ _ (fun _ _ _ e => s _ _ e) r
theorem CellsR_mono {H H' : Hp} {O O' : Addr → Prop} {os : List Addr} {cs : List Cell} {vs : List V} (s : Same H H') (h : ∀ a o, H a = some o → O' a → O a) (r : CellsR K H O os cs vs) : CellsR K H' O' os cs vs := CellsR_up (hide_same s h) _ _ _ (fun _ _ _ e => s _ _ e) r
theorem RowsR_len {H : Hp} {O : Addr → Prop} : ∀ {as : List Addr} {xss : List (List D)}, RowsR K H O as xss → as.length = xss.length
  | [], [], _ => rfl
  | a :: as, xs :: xss, ⟨_, r⟩ => by rw [List.length_cons, List.length_cons, RowsR_len r]
  | [], _ :: _, r => r.elim
  | _ :: _, [], r => r.elim
theorem RowsR_get {H : Hp} {O : Addr → Prop} : ∀ {as : List Addr} {xss : List (List D)} {i : Nat} {xs : List D}, RowsR K H O as xss → xss[i]? = some xs → ∃ a vs, as[i]? = some a ∧ H a = some (.lst vs) ∧ DpAll K (hide H O) vs xs
  | [], [], _, _, _, e => by simp at e
  | a :: as, xs :: xss, 0, ys, ⟨⟨vs, e1, q⟩, r⟩, e => by
    simp at e
    subst e
    exact ⟨a, vs, rfl, e1, q⟩
  | a :: as, xs :: xss, i + 1, ys, ⟨_, r⟩, e => by
    obtain ⟨b, vs, e1, e2, e3⟩ := RowsR_get (i := i) (xs := ys) r (by simpa using e)
    exact ⟨b, vs, by simpa using e1, e2, e3⟩
  | [], _ :: _, _, _, r, _ => r.elim
  | _ :: _, [], _, _, r, _ => r.elim
/-- as data that is read, in the whole heap -/
theorem RowsR_view {H : Hp} {O : Addr → Prop} : ∀ {as : List Addr} {xss : List (List D)}, RowsR K H O as xss → DpAll K H (as.map V.ref) (xss.map PyData.list)
  | [], [], _ => .nil
  | a :: as, xs :: xss, ⟨⟨vs, e1, q⟩, r⟩ => .cons (.lst (SqL.of e1) (DpAll_mono hide_sub _ _ q)) (RowsR_view r)
  | [], _ :: _, r => r.elim
  | _ :: _, [], r => r.elim
theorem CellR_view {H : Hp} {O : Addr → Prop} {os : List Addr} {c : Cell} {v : V} {x : D} (r : CellR K H O os c v) (e : c.view = some x) : Dp K H v x := by
  cases c with
  | d y =>
    cases e
    exact Dp_mono hide_sub _ _ r.2
  | own xs =>
    cases e
    obtain ⟨a, vs, rfl, _, e3, q⟩ := r
    exact .lst (SqL.of e3) (DpAll_mono hide_sub _ _ q)
  | own2 xss =>
    cases e
    obtain ⟨a, as, rfl, _, e3, q⟩ := r
    exact .lst (SqL.of e3) (RowsR_view q)
  | _ => cases e
/-- the items of a list or a tuple -/
theorem CellR_items {H : Hp} {O : Addr → Prop} {os : List Addr} {c : Cell} {v : V} {xs : List D} (r : CellR K H O os c v) (e : c.items = some xs) : ∃ a vs, v = .ref a ∧ (SqL K H a vs ∨ SqT K H a vs) ∧ DpAll K (hide H O) vs xs := by
  cases c with
  | d y =>
    cases y with
    | list ys =>
      cases e
      obtain ⟨a, vs, e1, e2, e3⟩ := Dp_seq r.2
      exact ⟨a, vs, e1, .inl (SqL_mono hide_sub e2), e3⟩
    | tuple ys =>
      cases e
      obtain ⟨a, vs, e1, e2, e3⟩ := Dp_tup r.2
      exact ⟨a, vs, e1, .inr (SqT_mono hide_sub e2), e3⟩
    | _ => cases e
  | own ys =>
    cases e
    obtain ⟨a, vs, rfl, _, e3, q⟩ := r
    exact ⟨a, vs, rfl, .inl (SqL.of e3), q⟩
  | _ => cases e
theorem RowsR_there {H : Hp} {O : Addr → Prop} : ∀ {as : List Addr} {xss : List (List D)}, RowsR K H O as xss → ∀ b ∈ as, ∃ o, H b = some o
  | [], [], _, b, hb => by cases hb
  | a :: as, xs :: xss, ⟨⟨vs, e, _⟩, r⟩, b, hb => by
    cases hb with
    | head => exact ⟨_, e⟩
    | tail _ hb => exact RowsR_there r b hb
  | [], _ :: _, r, _, _ => r.elim
  | _ :: _, [], r, _, _ => r.elim
mutual
theorem CellR_there' {H : Hp} {O : Addr → Prop} : ∀ (os : List Addr) (c : Cell) (v : V), CellR K H O os c v → ∀ b ∈ os, ∃ o, H b = some o
  | os, .un, v, r, b, hb => r.elim
  | os, .d x, v, r, b, hb => by
    rw [r.1] at hb
    cases hb
  | os, .own xs, v, ⟨a, vs, e1, e2, e3, q⟩, b, hb => by
    rw [e2] at hb
    rw [List.mem_singleton.mp hb]
    exact ⟨_, e3⟩
  | os, .own2 xss, v, ⟨a, as, e1, e2, e3, q⟩, b, hb => by
    rw [e2] at hb
    cases hb with
    | head => exact ⟨_, e3⟩
    | tail _ hb => exact RowsR_there q b hb
  | os, .dic kvs, v, ⟨a, es, e1, e2, e3, q⟩, b, hb => by
    rw [e2] at hb
    rw [List.mem_singleton.mp hb]
    exact ⟨_, e3⟩
  | os, .tup cs, v, r, b, hb => by
    unfold CellR at r
    obtain ⟨a, vs, os', e1, e2, e3, q⟩ := r
    rw [e2] at hb
    cases hb with
    | head => exact ⟨_, e3⟩
    | tail _ hb => exact CellsR_there' os' cs vs q b hb
  | os, .lst cs, v, r, b, hb => by
    unfold CellR at r
    obtain ⟨a, vs, os', e1, e2, e3, q⟩ := r
    rw [e2] at hb
    cases hb with
    | head => exact ⟨_, e3⟩
    | tail _ hb => exact CellsR_there' os' cs vs q b hb
  | os, .ins c ns cs, v, r, b, hb => by
    unfold CellR at r
    obtain ⟨a, C, dx, vs, os', e1, e2, e3, e4, e5, e6, q⟩ := r
    rw [e2] at hb
    cases hb with
    | head => exact ⟨_, e4⟩
    | tail _ hb =>
      cases hb with
      | head => exact ⟨_, e5⟩
      | tail _ hb => exact CellsR_there' os' cs vs q b hb
  | os, .par j c, v, r, b, hb => by
    unfold CellR at r
    exact CellR_there' os c v r.2 b hb
  | os, .fn j, v, r, b, hb => by
    unfold CellR at r
    rw [r.2] at hb
    cases hb
  | os, .exc a dd f x, v, r, b, hb => by
    unfold CellR at r
    obtain ⟨y, e1, e2, e3, q⟩ := r
    rw [e2] at hb
    cases hb
theorem CellsR_there' {H : Hp} {O : Addr → Prop} : ∀ (os : List Addr) (cs : List Cell) (vs : List V), CellsR K H O os cs vs → ∀ b ∈ os, ∃ o, H b = some o
  | os, [], vs, r, b, hb => by
    unfold CellsR at r
    rw [r.1] at hb
    cases hb
  | os, c :: cs, vs, r, b, hb => by
    unfold CellsR at r
    obtain ⟨v, vs', o1, o2, e1, e2, q1, q2⟩ := r
    rw [e2] at hb
    rcases List.mem_append.mp hb with hb | hb
    · exact CellR_there' o1 c v q1 b hb
    · exact CellsR_there' o2 cs vs' q2 b hb
end
theorem CellR_there {H : Hp} {O : Addr → Prop} {os : List Addr} {c : Cell} {v : V} (r : CellR K H O os c v) : ∀ b ∈ os, ∃ o, H b = some o := CellR_there' os c v r
/-- what is lent is seen -/
theorem CellR_par {H : Hp} {O : Addr → Prop} {os : List Addr} {c : Cell} {v : V} {k : Nat} (r : CellR K H O os (.par k c) v) : v = .ref (K.la k) ∧ CellR K H O os c v := by
  unfold CellR at r
  exact r
theorem RowsR_la {la : Nat → Addr} {H : Hp} {O : Addr → Prop} : ∀ {as : List Addr} {xss : List (List D)}, RowsR K H O as xss → RowsR { K with la := la } H O as xss
  | [], [], _ => trivial
  | _ :: _, _ :: _, ⟨h, r⟩ => ⟨h, RowsR_la r⟩
  | [], _ :: _, r => r.elim
  | _ :: _, [], r => r.elim
theorem EntsR_la {la : Nat → Addr} {G : Hp} : ∀ {es : List DictEntry} {ps : List (D × D)}, EntsR K G es ps → EntsR { K with la := la } G es ps
  | [], [], _ => trivial
  | _ :: _, _ :: _, ⟨h, r⟩ => ⟨h, EntsR_la r⟩
  | [], _ :: _, r => r.elim
  | _ :: _, [], r => r.elim
mutual
theorem CellR_la {la : Nat → Addr} {H : Hp} {O : Addr → Prop} : ∀ (os : List Addr) (c : Cell) (v : V), c.plain = true → CellR K H O os c v → CellR { K with la := la } H O os c v
  | os, .un, v, p, r => r
  | os, .d x, v, p, r => r
  | os, .own xs, v, p, r => r
  | os, .own2 xss, v, p, ⟨a, as, e1, e2, e3, q⟩ => ⟨a, as, e1, e2, e3, RowsR_la q⟩
  | os, .dic kvs, v, p, ⟨a, es, e1, e2, e3, q, z⟩ => ⟨a, es, e1, e2, e3, EntsR_la q, z⟩
  | os, .tup cs, v, p, r => by
    unfold Cell.plain at p
    unfold CellR at r ⊢
    obtain ⟨a, vs, os', e1, e2, e3, q⟩ := r
    exact ⟨a, vs, os', e1, e2, e3, CellsR_la os' cs vs p q⟩
  | os, .lst cs, v, p, r => by
    unfold Cell.plain at p
    unfold CellR at r ⊢
    obtain ⟨a, vs, os', e1, e2, e3, q⟩ := r
    exact ⟨a, vs, os', e1, e2, e3, CellsR_la os' cs vs p q⟩
  | os, .ins c ns cs, v, p, r => by
    unfold Cell.plain at p
    unfold CellR at r ⊢
    obtain ⟨a, C, dx, vs, os', e1, e2, e3, e4, e5, e6, q⟩ := r
    exact ⟨a, C, dx, vs, os', e1, e2, e3, e4, e5, e6, CellsR_la os' cs vs p q⟩
  | os, .par j c, v, p, r => by
    unfold Cell.plain at p
    cases p
  | os, .fn j, v, p, r => by
    unfold Cell.plain at p
    cases p
  | os, .exc a dd f x, v, p, r => by
    unfold Cell.plain at p
    cases p
theorem CellsR_la {la : Nat → Addr} {H : Hp} {O : Addr → Prop} : ∀ (os : List Addr) (cs : List Cell) (vs : List V), plainAll cs = true → CellsR K H O os cs vs → CellsR { K with la := la } H O os cs vs
  | os, [], vs, p, r => by
    unfold CellsR at r ⊢
    exact r
  | os, c :: cs, vs, p, r => by
    unfold plainAll at p
    rw [Bool.and_eq_true] at p
    unfold CellsR at r ⊢
    obtain ⟨v, vs', o1, o2, e1, e2, q1, q2⟩ := r
    exact ⟨v, vs', o1, o2, e1, e2, CellR_la o1 c v p.1 q1, CellsR_la o2 cs vs' p.2 q2⟩
end
/-- what is no data has a place -/
theorem CellR_ref {H : Hp} {O : Addr → Prop} : ∀ {os : List Addr} {c : Cell} {v : V}, CellR K H O os c v → (∀ x, c ≠ .d x) → ∃ a, v = .ref a
  | os, .un, v, r, _ => r.elim
  | os, .d x, v, r, n => absurd rfl (n x)
  | os, .own xs, v, ⟨a, _, e, _⟩, _ => ⟨a, e⟩
  | os, .own2 xss, v, ⟨a, _, e, _⟩, _ => ⟨a, e⟩
  | os, .dic xss, v, ⟨a, _, e, _⟩, _ => ⟨a, e⟩
  | os, .tup cs, v, r, _ => by
    unfold CellR at r
    obtain ⟨a, _, _, e, _⟩ := r
    exact ⟨a, e⟩
  | os, .lst cs, v, r, _ => by
    unfold CellR at r
    obtain ⟨a, _, _, e, _⟩ := r
    exact ⟨a, e⟩
  | os, .ins c ns cs, v, r, _ => by
    unfold CellR at r
    obtain ⟨a, _, _, _, _, e, _⟩ := r
    exact ⟨a, e⟩
  | os, .par k c, v, r, _ => ⟨_, (CellR_par r).1⟩
  | os, .fn j, v, r, _ => by
    unfold CellR at r
    exact ⟨_, r.1⟩
  | os, .exc a dd f x, v, r, _ => by
    unfold CellR at r
    obtain ⟨_, e, _⟩ := r
    exact ⟨a, e⟩
theorem CellR_un {H : Hp} {O : Addr → Prop} {os : List Addr} {c : Cell} {v : V} (r : CellR K H O os c v) : c ≠ .un := fun e => by
  subst e
  exact r
end
section
variable {K : KW}
/-! ### the frame's cells -/
/-- all that is owned: by others (O0), by the slots -/
def tO (O0 : Addr → Prop) (own : Nat → List Addr) : Addr → Prop := fun a => O0 a ∨ ∃ i, a ∈ own i
/-- what slot i holds, told by c -/
def SlotR (K : KW) (H : Hp) (O : Addr → Prop) (os : List Addr) (c : Cell) (x : Option (Option V)) : Prop := c = .un ∨ ∃ v, x = some (some v) ∧ CellR K H O os c v
structure EnvOk (K : KW) (H0 H : Hp) (O0 : Addr → Prop) (own : Nat → List Addr) (σ : L2.St) (env : Env) : Prop where
  same : Same H0 H
  len : σ.length = env.length
  cell : ∀ i c, env[i]? = some c → SlotR K H (tO O0 own) (own i) c σ[i]?
  th : ∀ i a, a ∈ own i → ∃ o, H a = some o
  nd : ∀ i, (own i).Nodup
  dj : ∀ i j a, i ≠ j → a ∈ own i → a ∉ own j
  fresh : ∀ i a, a ∈ own i → H0 a = none
  o0 : ∀ a, O0 a → ∃ o, H0 a = some o
theorem SlotR_up {H H' : Hp} {O O' : Addr → Prop} {os : List Addr} {c : Cell} {x : Option (Option V)} (s : Same (hide H O) (hide H' O')) (k : ∀ a ∈ os, ∀ o, H a = some o → H' a = some o) (r : SlotR K H O os c x) : SlotR K H' O' os c x := by
  rcases r with r | ⟨v, e, q⟩
  · exact .inl r
  · exact .inr ⟨v, e, CellR_up s _ _ _ k q⟩
theorem SlotR_mono {H H' : Hp} {O O' : Addr → Prop} {os : List Addr} {c : Cell} {x : Option (Option V)} (s : Same H H') (h : ∀ a o, H a = some o → O' a → O a) (r : SlotR K H O os c x) : SlotR K H' O' os c x := SlotR_up (hide_same s h) (fun _ _ _ e => s _ _ e) r
section
variable {H0 H H' : Hp} {O0 : Addr → Prop} {own : Nat → List Addr} {σ : L2.St} {env : Env}
theorem EnvOk.mono (E : EnvOk K H0 H O0 own σ env) (s : Same H H') : EnvOk K H0 H' O0 own σ env :=
  ⟨E.same.trans s, E.len, fun i c e => SlotR_mono s (fun _ _ _ z => z) (E.cell i c e), fun i a ha => let ⟨o, e⟩ := E.th i a ha; ⟨o, s _ _ e⟩, E.nd, E.dj, E.fresh, E.o0⟩
/-- a slot that holds something -/
theorem EnvOk.get (E : EnvOk K H0 H O0 own σ env) {i : Nat} {c : Cell} (e : env[i]? = some c) (n : c ≠ .un) : ∃ v, σ[i]? = some (some v) ∧ CellR K H (tO O0 own) (own i) c v := by
  rcases E.cell i c e with r | r
  · exact absurd r n
  · exact r
theorem EnvOk.there (E : EnvOk K H0 H O0 own σ env) {i : Nat} {a : Addr} (h : a ∈ own i) : ∃ o, H a = some o := E.th i a h
theorem EnvOk.thereO (E : EnvOk K H0 H O0 own σ env) : ∀ a, tO O0 own a → ∃ o, H a = some o := fun a h => by
  rcases h with h | ⟨i, h⟩
  · obtain ⟨o, e⟩ := E.o0 a h
    exact ⟨o, E.same _ _ e⟩
  · exact E.there h
def ownSet (own : Nat → List Addr) (i : Nat) (os : List Addr) : Nat → List Addr := fun j => if j = i then os else own j
/-- slot i gets a new cell; what it owned is nobody's -/
theorem EnvOk.set (E : EnvOk K H0 H O0 own σ env) {i : Nat} {os : List Addr} {c : Cell} {x : Option V} (hi : i < env.length) (hs : Same H0 H') (s : ∀ a o, H a = some o → ¬ tO O0 own a → H' a = some o)
    (so : ∀ j a o, j ≠ i → a ∈ own j → H a = some o → H' a = some o)
    (te : ∀ a ∈ os, ∃ o, H' a = some o) (f0 : ∀ a ∈ os, H0 a = none) (fo : ∀ a ∈ os, H a = none ∨ a ∈ own i) (nd : os.Nodup) (r : SlotR K H' (tO O0 (ownSet own i os)) os c (some x)) :
    EnvOk K H0 H' O0 (ownSet own i os) (σ.set i x) (env.set i c) := by
  have big : ∀ a o, H a = some o → tO O0 (ownSet own i os) a → tO O0 own a := fun a o e z => by
    rcases z with z | ⟨j, z⟩
    · exact .inl z
    · unfold ownSet at z
      by_cases hj : j = i
      · rw [if_pos hj] at z
        rcases fo a z with q | q
        · rw [e] at q; cases q
        · exact .inr ⟨i, q⟩
      · rw [if_neg hj] at z
        exact .inr ⟨j, z⟩
  have hs' : Same (hide H (tO O0 own)) (hide H' (tO O0 (ownSet own i os))) := fun a o q => by
    obtain ⟨n, q⟩ := hide_eq.mp q
    exact hide_eq.mpr ⟨fun z => n (big a o q z), s a o q n⟩
  refine ⟨hs, by rw [List.length_set, List.length_set]; exact E.len, fun j d e => ?_, fun j a e => ?_, fun j => ?_, fun j k a hjk ha hb => ?_, fun j a ha => ?_, E.o0⟩
  · by_cases hj : j = i
    · subst hj
      rw [List.getElem?_set_self hi] at e
      cases e
      rw [List.getElem?_set_self (by rw [E.len]; exact hi)]
      have ee : ownSet own j os j = os := if_pos rfl
      rw [ee]
      exact r
    · rw [List.getElem?_set_ne (Ne.symm hj)] at e ⊢
      have ee : ownSet own i os j = own j := if_neg hj
      rw [ee]
      exact SlotR_up hs' (fun a ha o e => so j a o hj ha e) (E.cell j d e)
  · unfold ownSet at e
    by_cases hj : j = i
    · rw [if_pos hj] at e
      exact te a e
    · rw [if_neg hj] at e
      obtain ⟨o, q⟩ := E.th j a e
      exact ⟨o, so j a o hj e q⟩
  · unfold ownSet
    by_cases hj : j = i
    · rw [if_pos hj]; exact nd
    · rw [if_neg hj]; exact E.nd j
  · unfold ownSet at ha hb
    by_cases hj : j = i
    · rw [if_pos hj] at ha
      have hk : k ≠ i := fun z => hjk (hj.trans z.symm)
      rw [if_neg hk] at hb
      rcases fo a ha with q | q
      · obtain ⟨o, e⟩ := E.there hb
        rw [e] at q; cases q
      · exact E.dj i k a (Ne.symm hk) q hb
    · rw [if_neg hj] at ha
      by_cases hk : k = i
      · rw [if_pos hk] at hb
        rcases fo a hb with q | q
        · obtain ⟨o, e⟩ := E.there ha
          rw [e] at q; cases q
        · exact E.dj i j a (Ne.symm hj) q ha
      · rw [if_neg hk] at hb
        exact E.dj j k a hjk ha hb
  · unfold ownSet at ha
    by_cases hj : j = i
    · rw [if_pos hj] at ha
      exact f0 a ha
    · rw [if_neg hj] at ha
      exact E.fresh j a ha
/-- what everybody may read is kept -/
theorem hide_set {i : Nat} {os : List Addr} (s : ∀ a o, H a = some o → ¬ tO O0 own a → H' a = some o) (fo : ∀ a ∈ os, H a = none ∨ a ∈ own i) : Same (hide H (tO O0 own)) (hide H' (tO O0 (ownSet own i os))) := fun a o q => by
  obtain ⟨n, q⟩ := hide_eq.mp q
  refine hide_eq.mpr ⟨fun z => n ?_, s a o q n⟩
  rcases z with z | ⟨j, z⟩
  · exact .inl z
  · unfold ownSet at z
    by_cases hj : j = i
    · rw [if_pos hj] at z
      rcases fo a z with w | w
      · rw [q] at w; cases w
      · exact .inr ⟨i, w⟩
    · rw [if_neg hj] at z
      exact .inr ⟨j, z⟩
end
end
end DL
/-! ## DL, part 3: expressions -/
namespace DL
open PySem PySem.Spec PyProof.Rows L2
/-- a cell that is looked at -/
def PeekR (K : KW) (H : Hp) (O : Addr → Prop) (c : Cell) (v : V) : Prop := ∃ os, CellR K H O os c v
theorem PeekR_mono {K : KW} {H H' : Hp} {O O' : Addr → Prop} {c : Cell} {v : V} (s : Same H H') (h : ∀ a o, H a = some o → O' a → O a) (r : PeekR K H O c v) : PeekR K H' O' c v :=
  let ⟨os, q⟩ := r; ⟨os, CellR_mono s h q⟩
/-- the fields of an exception -/
def FldsR (K : PySem.W.Frag) (H : Hp) : List (Str × V) → List (Str × D) → Prop
  | [], [] => True
  | p :: ps, q :: qs => p.1 = q.1 ∧ Dp K H p.2 q.2 ∧ FldsR K H ps qs
  | _, _ => False
/-- an exception: of the class that the module's name k holds; its fields -/
def ExcR (K : PySem.W.Frag) (mg : Str → Option Value) (H : Hp) (cls : Value) (d : Option Addr) (k : Str) (fs : List (Str × D)) : Prop :=
  (∃ C, mg k = some (.ref C) ∧ cls = .ref C) ∧ ((fs = [] ∧ d = none) ∨ ∃ dd vs, d = some dd ∧ H dd = some (.xd vs) ∧ FldsR K H vs fs)
theorem FldsR_mono {K : PySem.W.Frag} {H H' : Hp} (s : Same H H') : ∀ {vs : List (Str × V)} {fs : List (Str × D)}, FldsR K H vs fs → FldsR K H' vs fs
  | [], [], _ => trivial
  | _ :: _, _ :: _, ⟨e, q, r⟩ => ⟨e, Dp_mono s _ _ q, FldsR_mono s r⟩
  | [], _ :: _, r => r.elim
  | _ :: _, [], r => r.elim
theorem ExcR_mono {K : PySem.W.Frag} {mg : Str → Option Value} {H H' : Hp} (s : Same H H') {cls : Value} {d : Option Addr} {k : Str} {fs : List (Str × D)} (r : ExcR K mg H cls d k fs) : ExcR K mg H' cls d k fs := by
  obtain ⟨h1, h2⟩ := r
  refine ⟨h1, ?_⟩
  rcases h2 with h2 | ⟨dd, vs, e1, e2, e3⟩
  · exact .inl h2
  · exact .inr ⟨dd, vs, e1, s _ _ e2, FldsR_mono s e3⟩
/-- what is handed on of a result -/
def Hand (K : KW) (mg : Str → Option Value) (W : WX) (O : Addr → Prop) (H : Hp) (σ : L2.St) (r : R Cell) (Q : VK) : Prop :=
  match r with
  | .no => False
  | .ok c => ∀ v H' os, Same H H' → (∀ a ∈ os, H a = none) → os.Nodup → CellR K H' (fun a => O a ∨ a ∈ os) os c v → Q v H'
  | .ex k fs => ∀ H' cls d, Same H H' → ExcR K mg (hide H' O) cls d k fs → W cls d σ H'
/-- .. that is looked at -/
def HandP (K : KW) (mg : Str → Option Value) (W : WX) (O : Addr → Prop) (H : Hp) (σ : L2.St) (r : R Cell) (Q : VK) : Prop :=
  match r with
  | .no => False
  | .ok c => ∀ v H', Same H H' → PeekR K H' O c v → Q v H'
  | .ex k fs => ∀ H' cls d, Same H H' → ExcR K mg (hide H' O) cls d k fs → W cls d σ H'
theorem Hand.mono {K : KW} {mg : Str → Option Value} {W : WX} {O : Addr → Prop} {H H1 : Hp} {σ : L2.St} {r : R Cell} {Q : VK} (s : Same H H1) (h : Hand K mg W O H σ r Q) : Hand K mg W O H1 σ r Q := by
  cases r with
  | no => exact h
  | ok c => exact fun v H' os s' f nd q => h v H' os (s.trans s') (fun a ha => s.free (f a ha)) nd q
  | ex k fs => exact fun H' cls d s' q => h H' cls d (s.trans s') q
theorem HandP.mono {K : KW} {mg : Str → Option Value} {W : WX} {O : Addr → Prop} {H H1 : Hp} {σ : L2.St} {r : R Cell} {Q : VK} (s : Same H H1) (h : HandP K mg W O H σ r Q) : HandP K mg W O H1 σ r Q := by
  cases r with
  | no => exact h
  | ok c => exact fun v H' s' q => h v H' (s.trans s') q
  | ex k fs => exact fun H' cls d s' q => h H' cls d (s.trans s') q
/-- a value that needs no place -/
theorem Hand.dat {K : KW} {mg : Str → Option Value} {W : WX} {O : Addr → Prop} {H : Hp} {σ : L2.St} {x : D} {v : V} {Q : VK} (h : Hand K mg W O H σ (.ok (.d x)) Q) (q : Dp K (hide H O) v x) : Q v H := by
  refine h v H [] (Same.refl H) (fun a ha => by cases ha) List.nodup_nil ⟨rfl, ?_⟩
  exact Dp_mono (hide_same (Same.refl H) fun a o _ z => by
    rcases z with z | z
    · exact z
    · cases z) _ _ q
theorem CellR_O {K : KW} {H : Hp} {O : Addr → Prop} {os : List Addr} {c : Cell} {v : V} (h : CellR K H (fun a => O a ∨ a ∈ os) os c v) : PeekR K H O c v := ⟨os, CellR_mono (Same.refl H) (fun _ _ _ z => .inl z) h⟩
/-- the frame's reading of an expression -/
def teD (K : KW) (mg : Str → Option Value) (W : WX) (f : Env → R Cell) : TE := fun σ H Q => ∃ H0 O0 own env, EnvOk K H0 H O0 own σ env ∧ Hand K mg W (tO O0 own) H σ (f env) Q
def tpD (K : KW) (mg : Str → Option Value) (W : WX) (f : Env → R Cell) : TE := fun σ H Q => ∃ H0 O0 own env, EnvOk K H0 H O0 own σ env ∧ HandP K mg W (tO O0 own) H σ (f env) Q
/-- a test -/
def HandT (K : KW) (mg : Str → Option Value) (W : WX) (O : Addr → Prop) (H : Hp) (σ : L2.St) (r : R Bool) (Q : Bool → Hp → Prop) : Prop :=
  match r with
  | .no => False
  | .ok b => ∀ H', Same H H' → Q b H'
  | .ex k fs => ∀ H' cls d, Same H H' → ExcR K mg (hide H' O) cls d k fs → W cls d σ H'
theorem HandT.mono {K : KW} {mg : Str → Option Value} {W : WX} {O : Addr → Prop} {H H1 : Hp} {σ : L2.St} {r : R Bool} {Q : Bool → Hp → Prop} (s : Same H H1) (h : HandT K mg W O H σ r Q) : HandT K mg W O H1 σ r Q := by
  cases r with
  | no => exact h
  | ok c => exact fun H' s' => h H' (s.trans s')
  | ex k fs => exact fun H' cls d s' q => h H' cls d (s.trans s') q
def ttD (K : KW) (mg : Str → Option Value) (W : WX) (f : Env → R Bool) : TT := fun σ H Q => ∃ H0 O0 own env, EnvOk K H0 H O0 own σ env ∧ HandT K mg W (tO O0 own) H σ (f env) Q
/-- arguments: data -/
def HandA (K : KW) (mg : Str → Option Value) (W : WX) (O : Addr → Prop) (H : Hp) (σ : L2.St) (r : R (List D)) (Q : List V → Hp → Prop) : Prop :=
  match r with
  | .no => False
  | .ok ds => ∀ vs H', Same H H' → DpAll K (hide H' O) vs ds → Q vs H'
  | .ex k fs => ∀ H' cls d, Same H H' → ExcR K mg (hide H' O) cls d k fs → W cls d σ H'
theorem HandA.mono {K : KW} {mg : Str → Option Value} {W : WX} {O : Addr → Prop} {H H1 : Hp} {σ : L2.St} {r : R (List D)} {Q : List V → Hp → Prop} (s : Same H H1) (h : HandA K mg W O H σ r Q) : HandA K mg W O H1 σ r Q := by
  cases r with
  | no => exact h
  | ok c => exact fun v H' s' q => h v H' (s.trans s') q
  | ex k fs => exact fun H' cls d s' q => h H' cls d (s.trans s') q
def taD (K : KW) (mg : Str → Option Value) (W : WX) (f : Env → R (List D)) : TA := fun σ H Q => ∃ H0 O0 own env, EnvOk K H0 H O0 own σ env ∧ HandA K mg W (tO O0 own) H σ (f env) Q
/-- arguments that are looked at -/
def PeekAll (K : KW) (H : Hp) (O : Addr → Prop) : List Cell → List V → Prop
  | [], [] => True
  | c :: cs, v :: vs => PeekR K H O c v ∧ PeekAll K H O cs vs
  | _, _ => False
theorem PeekAll_mono {K : KW} {H H' : Hp} {O O' : Addr → Prop} (s : Same H H') (h : ∀ a o, H a = some o → O' a → O a) : ∀ {cs : List Cell} {vs : List V}, PeekAll K H O cs vs → PeekAll K H' O' cs vs
  | [], [], _ => trivial
  | _ :: _, _ :: _, ⟨q, r⟩ => ⟨PeekR_mono s h q, PeekAll_mono s h r⟩
  | [], _ :: _, r => r.elim
  | _ :: _, [], r => r.elim
def HandC (K : KW) (mg : Str → Option Value) (W : WX) (O : Addr → Prop) (H : Hp) (σ : L2.St) (r : R (List Cell)) (Q : List V → Hp → Prop) : Prop :=
  match r with
  | .no => False
  | .ok ds => ∀ vs H', Same H H' → PeekAll K H' O ds vs → Q vs H'
  | .ex k fs => ∀ H' cls d, Same H H' → ExcR K mg (hide H' O) cls d k fs → W cls d σ H'
def tcD (K : KW) (mg : Str → Option Value) (W : WX) (f : Env → R (List Cell)) : TA := fun σ H Q => ∃ H0 O0 own env, EnvOk K H0 H O0 own σ env ∧ HandC K mg W (tO O0 own) H σ (f env) Q
/-! ### weaker readings -/
theorem PE.imp {X : Cx} {e : Expr} {t t' : TE} (h : PE X e t) (i : ∀ σ H Q, t' σ H Q → t σ H Q) : PE X e t' := ⟨fun pins s σ H Q I q => h.run pins s σ H Q I (i _ _ _ q)⟩
theorem PT.imp {X : Cx} {e : Expr} {t t' : TT} (h : PT X e t) (i : ∀ σ H Q, t' σ H Q → t σ H Q) : PT X e t' := ⟨fun pins s σ H Q I q => h.run pins s σ H Q I (i _ _ _ q)⟩
theorem PW.imp {X : Cx} {e : Expr} {t t' : TT} (h : PW X e t) (i : ∀ σ H Q, t' σ H Q → t σ H Q) : PW X e t' := ⟨fun wh pins s σ H Q I q => h.run wh pins s σ H Q I (i _ _ _ q)⟩
theorem PA.imp {X : Cx} {e : List Expr} {t t' : TA} (h : PA X e t) (i : ∀ σ H Q, t' σ H Q → t σ H Q) : PA X e t' := ⟨fun pos pins s σ H Q I q => h.run pos pins s σ H Q I (i _ _ _ q)⟩
theorem PS.imp {X : Cx} {e : Stmt} {t t' : TS} (h : PS X e t) (i : ∀ D σ H, t' D σ H → t D σ H) : PS X e t' := ⟨fun pins s σ H D I q => h.run pins s σ H D I (i _ _ _ q)⟩
theorem PSs.imp {X : Cx} {e : List Stmt} {t t' : TS} (h : PSs X e t) (i : ∀ D σ H, t' D σ H → t D σ H) : PSs X e t' := ⟨fun pins s σ H D I q => h.run pins s σ H D I (i _ _ _ q)⟩
section
variable {X : Cx} {la : Nat → Addr} {W : WX} {e a b c : Expr} {fa fb fc : Env → R Cell} {pos : Pos}
theorem look_te {K : KW} {mg : Str → Option Value} {f : Env → R Cell} : ∀ σ H Q, tpD K mg W f σ H Q → teD K mg W f σ H Q := fun σ H Q ⟨H0, O0, own, env, E, h⟩ => by
  refine ⟨H0, O0, own, env, E, ?_⟩
  cases q : f env with
  | no => rw [q] at h; exact h
  | ok c =>
    rw [q] at h
    exact fun v H' os s _ _ r => h v H' s (CellR_O r)
  | ex k fs => rw [q] at h; exact h
/-- a value may be looked at -/
theorem dp_of (h : PE X e (teD (X.kw la) X.mg W fa)) : PE X e (tpD (X.kw la) X.mg W fa) := PE.imp h look_te
/-- what is looked at, if it is data, is a value -/
theorem de_of (h : PE X e (tpD (X.kw la) X.mg W fa)) : PE X e (teD (X.kw la) X.mg W fun en => (fa en).bind Cell.val) := PE.imp h fun σ H Q ⟨H0, O0, own, env, E, h⟩ => by
  refine ⟨H0, O0, own, env, E, ?_⟩
  cases q : fa env with
  | no =>
    simp only [q, R.bind_no] at h
    exact h
  | ok c =>
    simp only [q, R.bind_ok] at h
    intro v H' s r
    obtain ⟨os, r⟩ := r
    cases c with
    | d x =>
      exact Hand.dat (Hand.mono s h) r.2
    | _ => exact h.elim
  | ex k fs =>
    simp only [q, R.bind_ex] at h
    exact h
/-- the name in slot i -/
theorem dp_var (i : Nat) {x : Str} (hN : X.N[i]? = some x := by rfl) (hv : Vis X.env.scope x := by first | exact Or.inl rfl | exact Or.inr (Or.inl rfl) | exact Or.inr (Or.inr rfl)) (hd : (x == ("__debug__" : Str)) = false := by decide)
    (hcd : (x == ("__classdict__" : Str)) = false := by decide) : PE X (.Name x pos) (tpD (X.kw la) X.mg W (getC i)) := PE.imp (pe_var hN hv hd hcd) fun σ H Q ⟨H0, O0, own, env, E, h⟩ => by
  unfold getC at h
  cases q : env[i]? with
  | none =>
    simp only [q] at h
    exact h.elim
  | some c =>
    simp only [q] at h
    cases c with
    | un => exact h.elim
    | exc _ _ _ _ => exact h.elim
    | fn _ => exact h.elim
    | par a c =>
      obtain ⟨v, e1, e2⟩ := E.get q (by intro z; cases z)
      exact ⟨v, e1, h v H (Same.refl H) ⟨_, (CellR_par e2).2⟩⟩
    | _ =>
      obtain ⟨v, e1, e2⟩ := E.get q (by intro z; cases z)
      exact ⟨v, e1, h v H (Same.refl H) ⟨_, e2⟩⟩
theorem de_var (i : Nat) {x : Str} (hN : X.N[i]? = some x := by rfl) (hv : Vis X.env.scope x := by first | exact Or.inl rfl | exact Or.inr (Or.inl rfl) | exact Or.inr (Or.inr rfl)) (hd : (x == ("__debug__" : Str)) = false := by decide)
    (hcd : (x == ("__classdict__" : Str)) = false := by decide) : PE X (.Name x pos) (teD (X.kw la) X.mg W (varD i)) := de_of (dp_var i hN hv hd hcd)
theorem de_cst {v : V} {x : D} (h : PE X e (tC v)) (q : ∀ H, Dp X.K H v x) : PE X e (teD (X.kw la) X.mg W (cstD x)) := PE.imp h fun σ H Q ⟨H0, O0, own, env, E, h⟩ => Hand.dat (x := x) h (q _)
theorem de_int {i : Int} {j} : PE X (.Constant (.int i) j pos) (teD (X.kw la) X.mg W (cstD (.int i))) := de_cst pe_int fun _ => .int i
theorem de_bl {i : Bool} {j} : PE X (.Constant (.bool i) j pos) (teD (X.kw la) X.mg W (cstD (.bool i))) := de_cst pe_bl fun _ => .bl i
theorem de_non {j} : PE X (.Constant .none j pos) (teD (X.kw la) X.mg W (cstD .none)) := de_cst pe_non fun _ => .non
theorem de_str {x : Str} {j} : PE X (.Constant (.str x) j pos) (teD (X.kw la) X.mg W (cstD (.str x))) := de_cst pe_str fun _ => .str x
/-! ### operations on what is looked at -/
def Op1 (K : KW) (r : V → Hp → VK → Prop) (op : Cell → R Cell) : Prop :=
  ∀ (mg : Str → Option Value) (W : WX) (O : Addr → Prop) (H : Hp) (σ : L2.St) (c : Cell) (v : V) (Q : VK), (∀ a, O a → ∃ o, H a = some o) → PeekR K H O c v → Hand K mg W O H σ (op c) Q → r v H Q
def Op2 (K : KW) (r : R2) (op : Cell → Cell → R Cell) : Prop :=
  ∀ (mg : Str → Option Value) (W : WX) (O : Addr → Prop) (H : Hp) (σ : L2.St) (c d : Cell) (v u : V) (Q : VK), (∀ a, O a → ∃ o, H a = some o) → PeekR K H O c v → PeekR K H O d u → Hand K mg W O H σ (op c d) Q → r v u H Q
theorem look1 {K : KW} {mg : Str → Option Value} {r : V → Hp → VK → Prop} {op : Cell → R Cell} (ho : Op1 K r op) : ∀ σ H Q, teD K mg W (fun en => (fa en).bind op) σ H Q → tUn r (tpD K mg W fa) σ H Q := fun σ H Q ⟨H0, O0, own, env, E, h⟩ => by
  refine ⟨H0, O0, own, env, E, ?_⟩
  cases q : fa env with
  | no =>
    simp only [q, R.bind_no] at h
    exact h
  | ok c =>
    simp only [q, R.bind_ok] at h
    exact fun v H' s r => ho mg W _ H' σ c v Q (E.mono s).thereO r (Hand.mono s h)
  | ex k fs =>
    simp only [q, R.bind_ex] at h
    exact h
theorem look2 {K : KW} {mg : Str → Option Value} {r : R2} {op : Cell → Cell → R Cell} (ho : Op2 K r op) : ∀ σ H Q, teD K mg W (fun en => (fa en).bind fun x => (fb en).bind fun y => op x y) σ H Q → tOp r (tpD K mg W fa) (tpD K mg W fb) σ H Q := fun σ H Q ⟨H0, O0, own, env, E, h⟩ => by
  refine ⟨H0, O0, own, env, E, ?_⟩
  cases q : fa env with
  | no =>
    simp only [q, R.bind_no] at h
    exact h
  | ex k fs =>
    simp only [q, R.bind_ex] at h
    exact h
  | ok c =>
    simp only [q, R.bind_ok] at h
    intro v H1 s1 r1
    refine ⟨H0, O0, own, env, E.mono s1, ?_⟩
    cases q2 : fb env with
    | no =>
      simp only [q2, R.bind_no] at h
      exact h
    | ex k fs =>
      simp only [q2, R.bind_ex] at h
      exact fun H' cls d s' w => h H' cls d (s1.trans s') w
    | ok d =>
      simp only [q2, R.bind_ok] at h
      exact fun u H2 s2 r2 => ho mg W _ H2 σ c d v u Q (E.mono (s1.trans s2)).thereO (PeekR_mono s2 (fun _ _ _ z => z) r1) r2 (Hand.mono (s1.trans s2) h)
theorem de_op {op : Operator} {r : R2} {g : Cell → Cell → R Cell} (hr : OpR X (binaryOp op) r) (ho : Op2 (X.kw la) r g) (ha : PE X a (tpD (X.kw la) X.mg W fa)) (hb : PE X b (tpD (X.kw la) X.mg W fb)) :
    PE X (.BinOp a op b pos) (teD (X.kw la) X.mg W fun en => (fa en).bind fun x => (fb en).bind fun y => g x y) := PE.imp (pe_op hr ha hb) (look2 ho)
theorem de_un {op : UnaryOp} {r : V → Hp → VK → Prop} {g : Cell → R Cell} (hr : UnR X (unaryOp op) r) (ho : Op1 (X.kw la) r g) (ha : PE X a (tpD (X.kw la) X.mg W fa)) :
    PE X (.UnaryOp op a pos) (teD (X.kw la) X.mg W fun en => (fa en).bind g) := PE.imp (pe_un hr ha) (look1 ho)
theorem de_cmp {op : CmpOp} {r : R2} {g : Cell → Cell → R Cell} (hr : OpR X (compareOp op) r) (ho : Op2 (X.kw la) r g) (ha : PE X a (tpD (X.kw la) X.mg W fa)) (hb : PE X b (tpD (X.kw la) X.mg W fb)) (hm : behindInMarks op b = false) :
    PE X (.Compare a [op] [b] pos) (teD (X.kw la) X.mg W fun en => (fa en).bind fun x => (fb en).bind fun y => g x y) := PE.imp (pe_cmpR hr ha hb hm) (look2 ho)
theorem OpR.or2 {f : Value → Value → Sem Value} {r r' : R2} (h : OpR X f r) (h' : OpR X f r') : OpR X f (fun x y H Q => r x y H Q ∨ r' x y H Q) := fun pins s σ H x y v u Q I rx ry q => by
  rcases q with q | q
  · exact h pins s σ H x y v u Q I rx ry q
  · exact h' pins s σ H x y v u Q I rx ry q
end
/-! ### the operations -/
section
variable {K : KW}
theorem Peek_int {H : Hp} {O : Addr → Prop} {i : Int} {v : V} (h : PeekR K H O (.d (.int i)) v) : v = .int i := let ⟨_, _, q⟩ := h; Dp_int q
theorem Peek_d {H : Hp} {O : Addr → Prop} {x : D} {v : V} (h : PeekR K H O (.d x) v) : Dp K (hide H O) v x := let ⟨_, _, q⟩ := h; q
theorem Peek_own {H : Hp} {O : Addr → Prop} {xs : List D} {v : V} (h : PeekR K H O (.own xs) v) : ∃ a vs, v = .ref a ∧ H a = some (.lst vs) ∧ DpAll K (hide H O) vs xs := let ⟨_, a, vs, e1, _, e2, e3⟩ := h; ⟨a, vs, e1, e2, e3⟩
theorem Peek_view {H : Hp} {O : Addr → Prop} {c : Cell} {v : V} {x : D} (h : PeekR K H O c v) (e : c.view = some x) : Dp K H v x := let ⟨_, q⟩ := h; CellR_view q e
theorem Peek_items {H : Hp} {O : Addr → Prop} {c : Cell} {v : V} {xs : List D} (h : PeekR K H O c v) (e : c.items = some xs) : ∃ a vs, v = .ref a ∧ (SqL K H a vs ∨ SqT K H a vs) ∧ DpAll K (hide H O) vs xs := let ⟨_, q⟩ := h; CellR_items q e
theorem op2_intI {f : Int → Int → Int} {g : Int → Int → V} (e : ∀ i j, g i j = .int (f i j)) : Op2 K (rI0 g) (intI f) := fun mg W O H σ c d v u Q hO h1 h2 h => by
  unfold intI at h
  split at h
  · rename_i i j
    have e1 := Peek_int h1
    have e2 := Peek_int h2
    subst e1 e2
    exact ⟨i, j, rfl, rfl, by rw [e]; exact h.dat (.int _)⟩
  · exact h.elim
theorem op2_intB {f : Int → Int → Bool} : Op2 K (rI0 fun i j => .bl (f i j)) (intB f) := fun mg W O H σ c d v u Q hO h1 h2 h => by
  unfold intB at h
  split at h
  · rename_i i j
    have e1 := Peek_int h1
    have e2 := Peek_int h2
    subst e1 e2
    exact ⟨i, j, rfl, rfl, h.dat (.bl _)⟩
  · exact h.elim
theorem op2_div : Op2 K (rI CDiv fun i j => .int (i / j)) divD := fun mg W O H σ c d v u Q hO h1 h2 h => by
  unfold divD at h
  split at h
  · rename_i i j
    have e1 := Peek_int h1
    have e2 := Peek_int h2
    subst e1 e2
    split at h
    · rename_i hc
      exact ⟨i, j, rfl, rfl, hc, h.dat (.int _)⟩
    · exact h.elim
  · exact h.elim
theorem op2_mod : Op2 K (rI (fun _ j => 0 < j) fun i j => .int (i % j)) modD := fun mg W O H σ c d v u Q hO h1 h2 h => by
  unfold modD at h
  split at h
  · rename_i i j
    have e1 := Peek_int h1
    have e2 := Peek_int h2
    subst e1 e2
    split at h
    · rename_i hc
      exact ⟨i, j, rfl, rfl, hc, h.dat (.int _)⟩
    · exact h.elim
  · exact h.elim
theorem op2_pow : Op2 K (rI CPow fun i j => .int (i ^ j.toNat)) powD := fun mg W O H σ c d v u Q hO h1 h2 h => by
  unfold powD at h
  split at h
  · rename_i i j
    have e1 := Peek_int h1
    have e2 := Peek_int h2
    subst e1 e2
    split at h
    · rename_i hc
      exact ⟨i, j, rfl, rfl, hc, h.dat (.int _)⟩
    · exact h.elim
  · exact h.elim
theorem op1_neg : Op1 K (rU fun i => .int (-i)) negD := fun mg W O H σ c v Q hO h1 h => by
  unfold negD at h
  split at h
  · rename_i i
    have e1 := Peek_int h1
    subst e1
    exact ⟨i, rfl, h.dat (.int _)⟩
  · exact h.elim
/-- a new own list -/
theorem Hand.newL {mg : Str → Option Value} {W : WX} {O : Addr → Prop} {H : Hp} {σ : L2.St} {xs : List D} {vs : List V} {Q : VK} (h : Hand K mg W O H σ (.ok (.own xs)) Q) (q : DpAll K (hide H O) vs xs) : ∀ p, H p = none → Q (.ref p) (upd H p (.lst vs)) := fun p hp => by
  have s : Same H (upd H p (.lst vs)) := fun b o e => by rw [upd_ne (ne_of_none e hp)]; exact e
  refine h (.ref p) _ [p] s (fun a ha => ?_) (by simp) ⟨p, vs, rfl, rfl, upd_same, DpAll_mono (fun a o e => ?_) _ _ q⟩
  · rw [List.mem_singleton.mp ha]; exact hp
  · obtain ⟨n, e⟩ := hide_eq.mp e
    refine hide_eq.mpr ⟨fun z => ?_, s a o e⟩
    rcases z with z | z
    · exact n z
    · rw [List.mem_singleton.mp z, hp] at e
      cases e
/-- a new tuple -/
theorem Hand.newT {mg : Str → Option Value} {W : WX} {O : Addr → Prop} {H : Hp} {σ : L2.St} {xs : List D} {vs : List V} {Q : VK} (hO : ∀ a, O a → ∃ o, H a = some o) (h : Hand K mg W O H σ (.ok (.d (.tuple xs))) Q) (q : DpAll K (hide H O) vs xs) : ∀ p, H p = none → Q (.ref p) (upd H p (.tup vs)) := fun p hp => by
  have s : Same H (upd H p (.tup vs)) := fun b o e => by rw [upd_ne (ne_of_none e hp)]; exact e
  have s2 : Same (hide H O) (hide (upd H p (.tup vs)) O) := hide_same s fun _ _ _ z => z
  refine (Hand.mono s h).dat (.tup (SqT.of (hide_eq.mpr ⟨fun z => ?_, upd_same⟩)) (DpAll_mono s2 _ _ q))
  obtain ⟨o, e⟩ := hO p z
  rw [hp] at e
  cases e
end
end DL
/-! ## DL, part 4: more expressions, tests, arguments -/
namespace DL
open PySem PySem.Spec PyProof.Rows L2
def rCatS (K : PySem.W.Frag) : R2 := fun x y H Q => ∃ l b xs zs, x = .ref l ∧ y = .ref b ∧ SqL K H l xs ∧ SqL K H b zs ∧ xs.length + zs.length ≤ sizeLine ∧ ∀ p, H p = none → Q (.ref p) (upd H p (.lst (xs ++ zs)))
theorem op_catS {X : Cx} : OpR X (binaryOp .Add) (rCatS X.K) := by
  intro pins s σ H x y v u Q I rx ry h
  obtain ⟨l, b, xs, zs, rfl, rfl, hH, hB, hz, q⟩ := h
  cases rx
  cases ry
  obtain ⟨its, r, ⟨⟨cls, dd, data, sl⟩, n, ho, hc, hd, hs⟩, z1⟩ := I.list hH
  obtain ⟨its2, r2, ⟨⟨cls2, dd2, data2, sl2⟩, n2, ho2, hc2, hd2, hs2⟩, z2⟩ := I.list hB
  simp only at hc hd hs hc2 hd2 hs2
  subst hc hd hs hc2 hd2 hs2
  have ea : its.toArray ++ its2.toArray = (its ++ its2).toArray := by simp
  refine concat_meets ⟨_, ho, rfl⟩ ⟨_, ho2, rfl⟩ noFill_list_add seq_list_add PySem.F.slot_list_add PySem.F.entry_list_add (PySem.F.args_list_add_2 _ _) (list_addW l b its.toArray its2.toArray n n2 none none sl sl2 (by rw [List.size_toArray, List.size_toArray, ← r.length, ← r2.length]; exact hz)) ⟨ho, ho2, ?_⟩
  rw [ea]
  exact ⟨.ref _, _, I.lnew (r.append r2) (by rw [List.length_append]; exact hz), rfl, q _ I.fresh⟩
section
variable {K : KW}
theorem cat_seq {H : Hp} {O : Addr → Prop} {c : Cell} {v : V} {xs : List D} (h1 : PeekR K H O c v) (e : catL c = some xs) : ∃ a vs, v = .ref a ∧ SqL K H a vs ∧ DpAll K (hide H O) vs xs := by
  unfold catL at e
  split at e
  · cases e
    obtain ⟨a, vs, e1, s1, q1⟩ := Peek_own h1
    exact ⟨a, vs, e1, SqL.of s1, q1⟩
  · cases e
    obtain ⟨a, vs, e1, s1, q1⟩ := Dp_seq (Peek_d h1)
    exact ⟨a, vs, e1, SqL_mono hide_sub s1, q1⟩
  · cases e
theorem op2_add : Op2 K (fun x y H Q => rI0 (fun i j => .int (i + j)) x y H Q ∨ (∃ i j, x = .str i ∧ y = .str j ∧ i.length + j.length ≤ sizeLine ∧ Q (.str (i ++ j)) H) ∨ rCatA K x y H Q ∨ rCatS K x y H Q) addD := fun mg W O H σ c d v u Q hO h1 h2 h => by
  have sz := sizeLine_eq
  unfold addD at h
  split at h
  · rename_i i j
    have e1 := Peek_int h1
    have e2 := Peek_int h2
    subst e1 e2
    exact .inl ⟨i, j, rfl, rfl, h.dat (.int _)⟩
  · rename_i s t
    have e1 := Dp_str (Peek_d h1)
    have e2 := Dp_str (Peek_d h2)
    subst e1 e2
    split at h
    · rename_i hl
      exact .inr (.inl ⟨s, t, rfl, rfl, by rw [sz]; exact hl, h.dat (.str _)⟩)
    · exact h.elim
  · rename_i xs ys
    obtain ⟨a, vs, e1, s1, q1⟩ := Dp_tup (Peek_d h1)
    obtain ⟨b, ws, e2, s2, q2⟩ := Dp_tup (Peek_d h2)
    split at h
    · rename_i hl
      have n1 := DpAll_len q1
      have n2 := DpAll_len q2
      refine .inr (.inr (.inl ⟨a, b, vs, ws, e1, e2, SqT_mono hide_sub s1, SqT_mono hide_sub s2, by rw [n1, n2, sz]; exact hl, fun z => ?_, fun _ z => ?_, fun _ _ => h.newT hO (DpAll_append q1 q2)⟩))
      · subst z
        cases q1
        subst e2
        exact h.dat (.tup s2 q2)
      · subst z
        cases q2
        rw [List.append_nil] at h
        subst e1
        exact h.dat (.tup s1 q1)
    · exact h.elim
  · split at h
    · rename_i xs ys q1 q2
      obtain ⟨a, vs, e1, s1, q1⟩ := cat_seq h1 q1
      obtain ⟨b, ws, e2, s2, q2⟩ := cat_seq h2 q2
      split at h
      · rename_i hl
        have n1 := DpAll_len q1
        have n2 := DpAll_len q2
        exact .inr (.inr (.inr ⟨a, b, vs, ws, e1, e2, s1, s2, by rw [n1, n2, sz]; exact hl, h.newL (DpAll_append q1 q2)⟩))
      · exact h.elim
    · exact h.elim
theorem opr_add {X : Cx} : OpR X (binaryOp .Add) (fun x y H Q => rI0 (fun i j => .int (i + j)) x y H Q ∨ (∃ i j, x = .str i ∧ y = .str j ∧ i.length + j.length ≤ sizeLine ∧ Q (.str (i ++ j)) H) ∨ rCatA X.K x y H Q ∨ rCatS X.K x y H Q) :=
  OpR.or2 op_add (OpR.or2 op_add_str (OpR.or2 op_catA op_catS))
theorem op2_mul : Op2 K (fun x y H Q => rI CMul (fun i j => .int (i * j)) x y H Q ∨ rRep x y H Q) mulD := fun mg W O H σ c d v u Q hO h1 h2 h => by
  have sz := sizeLine_eq
  unfold mulD at h
  split at h
  · rename_i i j
    have e1 := Peek_int h1
    have e2 := Peek_int h2
    subst e1 e2
    split at h
    · rename_i hc
      exact .inl ⟨i, j, rfl, rfl, hc, h.dat (.int _)⟩
    · exact h.elim
  · rename_i k _
    have e2 := Peek_int h2
    subst e2
    split at h
    · rename_i xs _
      obtain ⟨a, vs, e1, s1, q1⟩ := Peek_own h1
      split at h
      · rename_i hc
        have n1 := DpAll_len q1
        exact .inr ⟨a, k, vs, e1, rfl, s1, hc.1, hc.2.1, by rw [n1, sz]; exact hc.2.2, h.newL (DpAll_rep q1 _)⟩
      · exact h.elim
    · exact h.elim
  · exact h.elim
theorem opr_mul {X : Cx} : OpR X (binaryOp .Mult) (fun x y H Q => rI CMul (fun i j => .int (i * j)) x y H Q ∨ rRep x y H Q) := OpR.or2 op_mul op_rep
theorem op2_eq : Op2 K (rEqD K) eqD := fun mg W O H σ c d v u Q hO h1 h2 h => by
  unfold eqD at h
  split at h
  · rename_i x y e1 e2
    split at h
    · rename_i hc
      exact ⟨x, y, Peek_view h1 e1, Peek_view h2 e2, hc.1, hc.2, h.dat (.bl _)⟩
    · exact h.elim
  · exact h.elim
theorem op2_ne : Op2 K (rNeD K) neD := fun mg W O H σ c d v u Q hO h1 h2 h => by
  unfold neD at h
  split at h
  · rename_i x y e1 e2
    split at h
    · rename_i hc
      exact ⟨x, y, Peek_view h1 e1, Peek_view h2 e2, hc.1, hc.2, h.dat (.bl _)⟩
    · exact h.elim
  · exact h.elim
theorem Dp_nn {H : Hp} {v : V} {x : D} (h : Dp K H v x) : decide (v = .non) = (match x with | .none => true | _ => false) := by
  cases h <;> simp
def notN (x : D) : Bool := match x with
  | .none => false
  | _ => true
theorem isN_eq {c : Cell} : isNoneD c = (match c with | .un => .no | .d x => .ok (.d (.bool (!notN x))) | _ => .ok (.d (.bool false))) := by
  unfold isNoneD notN
  cases c with
  | d x => cases x <;> rfl
  | _ => rfl
theorem notN_eq {c : Cell} : notNoneD c = (match c with | .un => .no | .d x => .ok (.d (.bool (notN x))) | _ => .ok (.d (.bool true))) := by
  unfold notNoneD notN
  cases c with
  | d x => cases x <;> rfl
  | _ => rfl
theorem Dp_notN {H : Hp} {v : V} {x : D} (h : Dp K H v x) : decide (v = .non) = !notN x := by
  cases h <;> simp [notN]
theorem op1_isN : Op1 K (fun x H Q => Q (.bl (decide (x = .non))) H) isNoneD := fun mg W O H σ c v Q hO h1 h => by
  rw [isN_eq] at h
  cases c with
  | un => exact h.elim
  | d x =>
    rw [Dp_notN (Peek_d h1)]
    exact h.dat (.bl _)
  | _ =>
    obtain ⟨_, r⟩ := h1
    obtain ⟨a, rfl⟩ := CellR_ref r (by intro x z; cases z)
    exact h.dat (.bl _)
theorem op1_notN : Op1 K (fun x H Q => Q (.bl (!decide (x = .non))) H) notNoneD := fun mg W O H σ c v Q hO h1 h => by
  rw [notN_eq] at h
  cases c with
  | un => exact h.elim
  | d x =>
    rw [Dp_notN (Peek_d h1), Bool.not_not]
    exact h.dat (.bl _)
  | _ =>
    obtain ⟨_, r⟩ := h1
    obtain ⟨a, rfl⟩ := CellR_ref r (by intro x z; cases z)
    exact h.dat (.bl _)
theorem op1_len : Op1 K (fun x H Q => (∃ p ys, [x] = [V.ref p] ∧ (SqL K H p ys ∨ SqT K H p ys) ∧ Q (.int ys.length) H) ∨ (∃ z, [x] = [V.str z] ∧ z.length ≤ sizeLine ∧ Q (.int z.length) H)) lenD := fun mg W O H σ c v Q hO h1 h => by
  have sz := sizeLine_eq
  unfold lenD at h
  split at h
  · rename_i xs
    obtain ⟨a, vs, rfl, s, q⟩ := Dp_seq (Peek_d h1)
    refine .inl ⟨a, vs, rfl, .inl (SqL_mono hide_sub s), ?_⟩
    rw [DpAll_len q]
    exact h.dat (.int _)
  · rename_i xs
    obtain ⟨a, vs, rfl, s, q⟩ := Dp_tup (Peek_d h1)
    refine .inl ⟨a, vs, rfl, .inr (SqT_mono hide_sub s), ?_⟩
    rw [DpAll_len q]
    exact h.dat (.int _)
  · rename_i s
    have e := Dp_str (Peek_d h1)
    subst e
    split at h
    · rename_i hl
      exact .inr ⟨s, rfl, by rw [sz]; exact hl, h.dat (.int _)⟩
    · exact h.elim
  · rename_i xs
    obtain ⟨a, vs, rfl, s, q⟩ := Peek_own h1
    refine .inl ⟨a, vs, rfl, .inl (SqL.of s), ?_⟩
    rw [DpAll_len q]
    exact h.dat (.int _)
  · rename_i xss
    obtain ⟨_, a, as, rfl, _, s, q⟩ := h1
    refine .inl ⟨a, _, rfl, .inl (SqL.of s), ?_⟩
    rw [List.length_map, RowsR_len q]
    exact h.dat (.int _)
  · exact h.elim
theorem op1_list : Op1 K (fun x H Q => ∃ p ys, [x] = [V.ref p] ∧ (SqL K H p ys ∨ SqT K H p ys) ∧ ∀ l, H l = none → Q (.ref l) (upd H l (.lst ys))) listD := fun mg W O H σ c v Q hO h1 h => by
  unfold listD at h
  split at h
  · rename_i xs e
    obtain ⟨a, vs, rfl, s, q⟩ := Peek_items h1 e
    exact ⟨a, vs, rfl, s, h.newL q⟩
  · exact h.elim
theorem op1_tuple : Op1 K (fun x H Q => ∃ p ys, [x] = [V.ref p] ∧ ((SqL K H p ys ∧ ∀ l, H l = none → Q (.ref l) (upd H l (.tup ys))) ∨ (SqT K H p ys ∧ Q (.ref p) H))) tupleD := fun mg W O H σ c v Q hO h1 h => by
  unfold tupleD at h
  cases c with
  | own xs =>
    obtain ⟨a, vs, rfl, s, q⟩ := Peek_own h1
    exact ⟨a, vs, rfl, .inl ⟨SqL.of s, h.newT hO q⟩⟩
  | d x =>
    cases x with
    | list xs =>
      obtain ⟨a, vs, rfl, s, q⟩ := Dp_seq (Peek_d h1)
      exact ⟨a, vs, rfl, .inl ⟨SqL_mono hide_sub s, h.newT hO q⟩⟩
    | tuple xs =>
      obtain ⟨a, vs, rfl, s, q⟩ := Dp_tup (Peek_d h1)
      exact ⟨a, vs, rfl, .inr ⟨SqT_mono hide_sub s, h.dat (.tup s q)⟩⟩
    | _ => exact h.elim
  | _ => exact h.elim
theorem op2_max : Op2 K (fun x y H Q => ∃ i j, [x, y] = [V.int i, V.int j] ∧ Q (.int (if j > i then j else i)) H) maxD := fun mg W O H σ c d v u Q hO h1 h2 h => by
  unfold maxD intI at h
  split at h
  · rename_i i j
    have e1 := Peek_int h1
    have e2 := Peek_int h2
    subst e1 e2
    exact ⟨i, j, rfl, h.dat (.int _)⟩
  · exact h.elim
theorem op2_min : Op2 K (fun x y H Q => ∃ i j, [x, y] = [V.int i, V.int j] ∧ Q (.int (if j < i then j else i)) H) minD := fun mg W O H σ c d v u Q hO h1 h2 h => by
  unfold minD intI at h
  split at h
  · rename_i i j
    have e1 := Peek_int h1
    have e2 := Peek_int h2
    subst e1 e2
    exact ⟨i, j, rfl, h.dat (.int _)⟩
  · exact h.elim
/-- isinstance(x, T), T one of the five -/
theorem TyX_sq {H : Hp} {a : Addr} {vs : List V} (h : SqL K H a vs) : TyX K H (.ref a) (.type "list") := by
  rcases h with (h | ⟨o, h⟩) | ⟨o, its, n, h1, h2, _⟩
  · exact .base (.lst h)
  · exact .base (.frz h)
  · exact .kList h1 h2
theorem TyX_tp {H : Hp} {a : Addr} {vs : List V} (h : SqT K H a vs) : TyX K H (.ref a) (.type "tuple") := by
  rcases h with (h | ⟨o, h⟩) | ⟨o, its, n, h1, h2, _⟩
  · exact .base (.tup h)
  · exact .fTuple h
  · exact .kTuple h1 h2
def Five (n : String) : Prop := n = "bool" ∨ n = "int" ∨ n = "str" ∨ n = "list" ∨ n = "tuple"
theorem kit5 {n : String} (hn : Five n) : PySem.W.kitOne K (.type "NoneType") (.type n) = some false ∧ PySem.W.kitOne K (.type "bool") (.type n) = some (n == "bool" || n == "int") ∧ PySem.W.kitOne K (.type "int") (.type n) = some (n == "int") ∧
    PySem.W.kitOne K (.type "str") (.type n) = some (n == "str") ∧ PySem.W.kitOne K (.type "list") (.type n) = some (n == "list") ∧ PySem.W.kitOne K (.type "tuple") (.type n) = some (n == "tuple") := by
  rcases hn with rfl | rfl | rfl | rfl | rfl <;> exact ⟨kit_ty (by decide +kernel), kit_ty (by decide +kernel), kit_ty (by decide +kernel), kit_ty (by decide +kernel), kit_ty (by decide +kernel), kit_ty (by decide +kernel)⟩
theorem op1_isi {n : String} (hn : Five n) : Op1 K (fun x H Q => rIsi K [x, .ty n] H Q) (isiD n) := fun mg W O H σ c v Q hO h1 h => by
  obtain ⟨k0, k1, k2, k3, k4, k5⟩ := kit5 (K := K) hn
  unfold isiD at h
  split at h
  · exact h.elim
  · have e := Dp_none (Peek_d h1)
    subst e
    exact ⟨_, _, _, _, _, rfl, .ty n, .base .non, k0, h.dat (.bl _)⟩
  · have e := Dp_bool (Peek_d h1)
    subst e
    exact ⟨_, _, _, _, _, rfl, .ty n, .base (.bl _), k1, h.dat (.bl _)⟩
  · have e := Dp_int (Peek_d h1)
    subst e
    exact ⟨_, _, _, _, _, rfl, .ty n, .base (.int _), k2, h.dat (.bl _)⟩
  · have e := Dp_str (Peek_d h1)
    subst e
    exact ⟨_, _, _, _, _, rfl, .ty n, .base (.str _), k3, h.dat (.bl _)⟩
  · obtain ⟨a, vs, rfl, s, q⟩ := Dp_seq (Peek_d h1)
    exact ⟨_, _, _, _, _, rfl, .ty n, TyX_sq (SqL_mono hide_sub s), k4, h.dat (.bl _)⟩
  · obtain ⟨a, vs, rfl, s, q⟩ := Dp_tup (Peek_d h1)
    exact ⟨_, _, _, _, _, rfl, .ty n, TyX_tp (SqT_mono hide_sub s), k5, h.dat (.bl _)⟩
  · exact h.elim
  · obtain ⟨a, vs, rfl, s, q⟩ := Peek_own h1
    exact ⟨_, _, _, _, _, rfl, .ty n, TyX_sq (SqL.of s), k4, h.dat (.bl _)⟩
  · obtain ⟨_, a, as, rfl, _, s, q⟩ := h1
    exact ⟨_, _, _, _, _, rfl, .ty n, TyX_sq (SqL.of s), k4, h.dat (.bl _)⟩
  · exact h.elim
/-! ### subscripts -/
theorem atI_mono {xs : List V} {ds : List D} {H : Hp} {i : Int} {x : D} (q : DpAll K H xs ds) (h : atI ds i = some x) : ∃ v, atI xs i = some v ∧ Dp K H v x := by
  obtain ⟨j, h1, h2⟩ := Option.bind_eq_some_iff.mp h
  obtain ⟨v, e1, e2⟩ := DpAll_get q h2
  exact ⟨v, Option.bind_eq_some_iff.mpr ⟨j, by rw [DpAll_len q]; exact h1, e1⟩, e2⟩
theorem atI_rows {H : Hp} {O : Addr → Prop} {as : List Addr} {xss : List (List D)} {i : Int} {xs : List D} (q : RowsR K H O as xss) (h : atI xss i = some xs) : ∃ a vs, atI (as.map V.ref) i = some (.ref a) ∧ H a = some (.lst vs) ∧ DpAll K (hide H O) vs xs := by
  obtain ⟨j, h1, h2⟩ := Option.bind_eq_some_iff.mp h
  obtain ⟨a, vs, e1, e2, e3⟩ := RowsR_get q h2
  refine ⟨a, vs, Option.bind_eq_some_iff.mpr ⟨j, by rw [List.length_map, RowsR_len q]; exact h1, ?_⟩, e2, e3⟩
  rw [List.getElem?_map, e1]
  rfl
def Op2P (K : KW) (r : R2) (op : Cell → Cell → R Cell) : Prop :=
  ∀ (mg : Str → Option Value) (W : WX) (O : Addr → Prop) (H : Hp) (σ : L2.St) (c d : Cell) (v u : V) (Q : VK), (∀ a, O a → ∃ o, H a = some o) → PeekR K H O c v → PeekR K H O d u → HandP K mg W O H σ (op c d) Q → r v u H Q
theorem op2p_ix : Op2P K (rIx K) idxD := fun mg W O H σ c d v u Q hO h1 h2 h => by
  unfold idxD at h
  split at h
  · rename_i i
    have e2 := Peek_int h2
    subst e2
    split at h
    · obtain ⟨a, vs, rfl, s, q⟩ := Dp_seq (Peek_d h1)
      split at h
      · rename_i x e
        obtain ⟨w, e1, e2⟩ := atI_mono q e
        exact .inl ⟨a, vs, i, w, rfl, rfl, SqL_mono hide_sub s, e1, h w H (Same.refl H) ⟨[], rfl, e2⟩⟩
      · exact h.elim
    · obtain ⟨a, vs, rfl, s, q⟩ := Dp_tup (Peek_d h1)
      split at h
      · rename_i x e
        obtain ⟨w, e1, e2⟩ := atI_mono q e
        exact .inr (.inl ⟨a, vs, i, w, rfl, rfl, SqT_mono hide_sub s, e1, h w H (Same.refl H) ⟨[], rfl, e2⟩⟩)
      · exact h.elim
    · obtain ⟨a, vs, rfl, s, q⟩ := Peek_own h1
      split at h
      · rename_i x e
        obtain ⟨w, e1, e2⟩ := atI_mono q e
        exact .inl ⟨a, vs, i, w, rfl, rfl, SqL.of s, e1, h w H (Same.refl H) ⟨[], rfl, e2⟩⟩
      · exact h.elim
    · obtain ⟨_, a, as, rfl, _, s, q⟩ := h1
      split at h
      · rename_i x e
        obtain ⟨b, ws, e1, e2, e3⟩ := atI_rows q e
        exact .inl ⟨a, _, i, .ref b, rfl, rfl, SqL.of s, e1, h _ H (Same.refl H) ⟨[b], b, ws, rfl, rfl, e2, e3⟩⟩
      · exact h.elim
    · exact h.elim
  · exact h.elim
end
section
variable {X : Cx} {la : Nat → Addr} {W : WX} {e a b c : Expr} {fa fb fc : Env → R Cell} {pos : Pos}
theorem look2P {K : KW} {mg : Str → Option Value} {r : R2} {op : Cell → Cell → R Cell} (ho : Op2P K r op) : ∀ σ H Q, tpD K mg W (fun en => (fa en).bind fun x => (fb en).bind fun y => op x y) σ H Q → tOp r (tpD K mg W fa) (tpD K mg W fb) σ H Q := fun σ H Q ⟨H0, O0, own, env, E, h⟩ => by
  refine ⟨H0, O0, own, env, E, ?_⟩
  cases q : fa env with
  | no =>
    simp only [q, R.bind_no] at h
    exact h
  | ex k fs =>
    simp only [q, R.bind_ex] at h
    exact h
  | ok c =>
    simp only [q, R.bind_ok] at h
    intro v H1 s1 r1
    refine ⟨H0, O0, own, env, E.mono s1, ?_⟩
    cases q2 : fb env with
    | no =>
      simp only [q2, R.bind_no] at h
      exact h
    | ex k fs =>
      simp only [q2, R.bind_ex] at h
      exact fun H' cls d s' w => h H' cls d (s1.trans s') w
    | ok d =>
      simp only [q2, R.bind_ok] at h
      exact fun u H2 s2 r2 => ho mg W _ H2 σ c d v u Q (E.mono (s1.trans s2)).thereO (PeekR_mono s2 (fun _ _ _ z => z) r1) r2 (HandP.mono (s1.trans s2) h)
/-- a[b], looked at -/
theorem dp_ix (ha : PE X a (tpD (X.kw la) X.mg W fa)) (hb : PE X b (tpD (X.kw la) X.mg W fb)) (hs : PlainIx b := by exact fun _ _ => rfl) : PE X (.Subscript a b pos) (tpD (X.kw la) X.mg W fun en => (fa en).bind fun x => (fb en).bind fun y => idxD x y) :=
  PE.imp (pe_ix ix_seq ha hb hs) (look2P op2p_ix)
/-- comparisons as tests -/
theorem look2T {K : KW} {mg : Str → Option Value} {r : R2} {op : Cell → Cell → R Cell} (ho : Op2 K r op) : ∀ σ H Q, ttD K mg W (fun en => ((fa en).bind fun x => (fb en).bind fun y => op x y).bind asB) σ H Q → tTest (tOp r (tpD K mg W fa) (tpD K mg W fb)) σ H Q := fun σ H Q h => by
  refine look2 (mg := mg) (W := W) ho σ H _ ?_
  obtain ⟨H0, O0, own, env, E, h⟩ := h
  refine ⟨H0, O0, own, env, E, ?_⟩
  dsimp only
  cases q : ((fa env).bind fun x => (fb env).bind fun y => op x y) with
  | no =>
    simp only [q, R.bind_no] at h
    exact h
  | ex k fs =>
    simp only [q, R.bind_ex] at h
    exact h
  | ok c =>
    simp only [q, R.bind_ok] at h
    intro v H' os s _ _ r
    unfold asB at h
    split at h
    · rename_i b
      have e := Dp_bool r.2
      subst e
      exact ⟨b, rfl, h H' s⟩
    · exact h.elim
theorem dt_cmp {op : CmpOp} {r : R2} {g : Cell → Cell → R Cell} (hr : OpR X (compareOp op) r) (ho : Op2 (X.kw la) r g) (ha : PE X a (tpD (X.kw la) X.mg W fa)) (hb : PE X b (tpD (X.kw la) X.mg W fb)) (hm : behindInMarks op b = false) :
    PT X (.Compare a [op] [b] pos) (ttD (X.kw la) X.mg W fun en => ((fa en).bind fun x => (fb en).bind fun y => g x y).bind asB) := PT.imp (pt_cmpR hr ha hb hm) (look2T ho)
theorem lookT {K : KW} {mg : Str → Option Value} : ∀ σ H Q, ttD K mg W (fun en => (fa en).bind asB) σ H Q → tB (teD K mg W fa) σ H Q := fun σ H Q h => by
  obtain ⟨H0, O0, own, env, E, h⟩ := h
  refine ⟨H0, O0, own, env, E, ?_⟩
  cases q : fa env with
  | no =>
    simp only [q, R.bind_no] at h
    exact h
  | ex k fs =>
    simp only [q, R.bind_ex] at h
    exact h
  | ok c =>
    simp only [q, R.bind_ok] at h
    intro v H' os s _ _ r
    unfold asB at h
    split at h
    · rename_i b
      have e := Dp_bool r.2
      subst e
      exact ⟨b, rfl, h H' s⟩
    · exact h.elim
/-- a value that is True or False, as a test -/
theorem dt_val (ha : PE X a (teD (X.kw la) X.mg W fa)) (he : ∀ whole, isTrue a X.env whole = (do let v ← whole; standAt a.pos; holding [v] (truthy v)) := by intro _; rfl) : PT X a (ttD (X.kw la) X.mg W fun en => (fa en).bind asB) :=
  PT.imp (pt_val ha he) lookT
variable {ta tb : Env → R Bool} {rest : List Expr}
def andR (x : R Bool) (y : R Bool) : R Bool := x.bind fun b => if b = true then y else .ok false
def orR (x : R Bool) (y : R Bool) : R Bool := x.bind fun b => if b = true then .ok true else y
def notR (x : R Bool) : R Bool := x.bind fun b => .ok (!b)
theorem dt_not (ha : PT X a (ttD (X.kw la) X.mg W ta)) : PT X (.UnaryOp .Not a pos) (ttD (X.kw la) X.mg W fun en => notR (ta en)) := PT.imp (pt_not ha) fun σ H Q ⟨H0, O0, own, env, E, h⟩ => by
  refine ⟨H0, O0, own, env, E, ?_⟩
  unfold notR at h
  cases q : ta env with
  | no => simp only [q, R.bind_no] at h; exact h
  | ex k fs => simp only [q, R.bind_ex] at h; exact h
  | ok b => simp only [q, R.bind_ok] at h; exact h
theorem dw_and1 (ha : PT X a (ttD (X.kw la) X.mg W ta)) : PW X (.BoolOp .And [a] pos) (ttD (X.kw la) X.mg W ta) := pw_and1 ha
theorem dw_or1 (ha : PT X a (ttD (X.kw la) X.mg W ta)) : PW X (.BoolOp .Or [a] pos) (ttD (X.kw la) X.mg W ta) := pw_or1 ha
theorem dw_and (ha : PT X a (ttD (X.kw la) X.mg W ta)) (hb : PW X (.BoolOp .And (b :: rest) pos) (ttD (X.kw la) X.mg W tb)) : PW X (.BoolOp .And (a :: b :: rest) pos) (ttD (X.kw la) X.mg W fun en => andR (ta en) (tb en)) := PW.imp (pw_and ha hb) fun σ H Q ⟨H0, O0, own, env, E, h⟩ => by
  refine ⟨H0, O0, own, env, E, ?_⟩
  unfold andR at h
  cases q : ta env with
  | no => simp only [q, R.bind_no] at h; exact h
  | ex k fs => simp only [q, R.bind_ex] at h; exact h
  | ok b =>
    simp only [q, R.bind_ok] at h
    intro H' s
    cases b with
    | true =>
      rw [if_pos rfl] at h ⊢
      exact ⟨H0, O0, own, env, E.mono s, HandT.mono s h⟩
    | false =>
      rw [if_neg Bool.false_ne_true] at h ⊢
      exact h H' s
theorem dw_or (ha : PT X a (ttD (X.kw la) X.mg W ta)) (hb : PW X (.BoolOp .Or (b :: rest) pos) (ttD (X.kw la) X.mg W tb)) : PW X (.BoolOp .Or (a :: b :: rest) pos) (ttD (X.kw la) X.mg W fun en => orR (ta en) (tb en)) := PW.imp (pw_or ha hb) fun σ H Q ⟨H0, O0, own, env, E, h⟩ => by
  refine ⟨H0, O0, own, env, E, ?_⟩
  unfold orR at h
  cases q : ta env with
  | no => simp only [q, R.bind_no] at h; exact h
  | ex k fs => simp only [q, R.bind_ex] at h; exact h
  | ok b =>
    simp only [q, R.bind_ok] at h
    intro H' s
    cases b with
    | true =>
      rw [if_pos rfl] at h ⊢
      exact h H' s
    | false =>
      rw [if_neg Bool.false_ne_true] at h ⊢
      exact ⟨H0, O0, own, env, E.mono s, HandT.mono s h⟩
/-! ### and, or, not as values (truth values) -/
def andV (x y : R Cell) : R Cell := (x.bind asB).bind fun b => if b = true then y else .ok (.d (.bool false))
def orV (x y : R Cell) : R Cell := (x.bind asB).bind fun b => if b = true then .ok (.d (.bool true)) else y
def notV (x : R Cell) : R Cell := (x.bind asB).bind fun b => .ok (.d (.bool (!b)))
theorem de_one {op} (ha : PE X a (teD (X.kw la) X.mg W fa)) : PE X (.BoolOp op [a] pos) (teD (X.kw la) X.mg W fa) := pe_one ha
theorem asB_ok {K : KW} {H : Hp} {O : Addr → Prop} {os : List Addr} {c : Cell} {v : V} {b : Bool} (h : asB c = .ok b) (r : CellR K H O os c v) : v = .bl b := by
  unfold asB at h
  split at h
  · cases h
    exact Dp_bool r.2
  · cases h
theorem asB_ex {c : Cell} {k : Str} {fs : List (Str × D)} (h : asB c = .ex k fs) : False := by
  unfold asB at h
  split at h <;> cases h
theorem de_and (ha : PE X a (teD (X.kw la) X.mg W fa)) (hb : PE X (.BoolOp .And (b :: rest) pos) (teD (X.kw la) X.mg W fb)) : PE X (.BoolOp .And (a :: b :: rest) pos) (teD (X.kw la) X.mg W fun en => andV (fa en) (fb en)) := PE.imp (pe_and ha hb) fun σ H Q ⟨H0, O0, own, env, E, h⟩ => by
  refine ⟨H0, O0, own, env, E, ?_⟩
  unfold andV at h
  cases q : fa env with
  | no => simp only [q, R.bind_no] at h; exact h
  | ex k fs => simp only [q, R.bind_ex] at h; exact h
  | ok c =>
    simp only [q, R.bind_ok] at h
    intro v H' os s _ _ r
    cases q2 : asB c with
    | no => simp only [q2, R.bind_no] at h; exact h.elim
    | ex k fs => exact (asB_ex q2).elim
    | ok b =>
      simp only [q2, R.bind_ok] at h
      refine ⟨b, asB_ok q2 r, ?_⟩
      cases b with
      | true =>
        rw [if_pos rfl] at h ⊢
        exact ⟨H0, O0, own, env, E.mono s, Hand.mono s h⟩
      | false =>
        rw [if_neg Bool.false_ne_true] at h ⊢
        exact (Hand.mono s h).dat (.bl _)
theorem de_or (ha : PE X a (teD (X.kw la) X.mg W fa)) (hb : PE X (.BoolOp .Or (b :: rest) pos) (teD (X.kw la) X.mg W fb)) : PE X (.BoolOp .Or (a :: b :: rest) pos) (teD (X.kw la) X.mg W fun en => orV (fa en) (fb en)) := PE.imp (pe_or ha hb) fun σ H Q ⟨H0, O0, own, env, E, h⟩ => by
  refine ⟨H0, O0, own, env, E, ?_⟩
  unfold orV at h
  cases q : fa env with
  | no => simp only [q, R.bind_no] at h; exact h
  | ex k fs => simp only [q, R.bind_ex] at h; exact h
  | ok c =>
    simp only [q, R.bind_ok] at h
    intro v H' os s _ _ r
    cases q2 : asB c with
    | no => simp only [q2, R.bind_no] at h; exact h.elim
    | ex k fs => exact (asB_ex q2).elim
    | ok b =>
      simp only [q2, R.bind_ok] at h
      refine ⟨b, asB_ok q2 r, ?_⟩
      cases b with
      | true =>
        rw [if_pos rfl] at h ⊢
        exact (Hand.mono s h).dat (.bl _)
      | false =>
        rw [if_neg Bool.false_ne_true] at h ⊢
        exact ⟨H0, O0, own, env, E.mono s, Hand.mono s h⟩
theorem de_not (ha : PE X a (teD (X.kw la) X.mg W fa)) : PE X (.UnaryOp .Not a pos) (teD (X.kw la) X.mg W fun en => notV (fa en)) := PE.imp (pe_not ha) fun σ H Q ⟨H0, O0, own, env, E, h⟩ => by
  refine ⟨H0, O0, own, env, E, ?_⟩
  unfold notV at h
  cases q : fa env with
  | no => simp only [q, R.bind_no] at h; exact h
  | ex k fs => simp only [q, R.bind_ex] at h; exact h
  | ok c =>
    simp only [q, R.bind_ok] at h
    intro v H' os s _ _ r
    cases q2 : asB c with
    | no => simp only [q2, R.bind_no] at h; exact h.elim
    | ex k fs => exact (asB_ex q2).elim
    | ok b =>
      simp only [q2, R.bind_ok] at h
      exact ⟨b, asB_ok q2 r, (Hand.mono s h).dat (.bl _)⟩
def ifR {α : Type} (t : R Bool) (x y : R α) : R α := t.bind fun b => if b = true then x else y
theorem de_if (hc : PT X c (ttD (X.kw la) X.mg W ta)) (ha : PE X a (teD (X.kw la) X.mg W fa)) (hb : PE X b (teD (X.kw la) X.mg W fb)) : PE X (.IfExp c a b pos) (teD (X.kw la) X.mg W fun en => ifR (ta en) (fa en) (fb en)) := PE.imp (pe_ifExp hc ha hb) fun σ H Q ⟨H0, O0, own, env, E, h⟩ => by
  refine ⟨H0, O0, own, env, E, ?_⟩
  unfold ifR at h
  cases q : ta env with
  | no => simp only [q, R.bind_no] at h; exact h
  | ex k fs => simp only [q, R.bind_ex] at h; exact h
  | ok b =>
    simp only [q, R.bind_ok] at h
    intro H' s
    cases b with
    | true =>
      rw [if_pos rfl] at h ⊢
      exact ⟨H0, O0, own, env, E.mono s, Hand.mono s h⟩
    | false =>
      rw [if_neg Bool.false_ne_true] at h ⊢
      exact ⟨H0, O0, own, env, E.mono s, Hand.mono s h⟩
/-- a is None, a is not None -/
theorem de_isN {j p'} (ha : PE X a (tpD (X.kw la) X.mg W fa)) : PE X (.Compare a [.Is] [.Constant .none j p'] pos) (teD (X.kw la) X.mg W fun en => (fa en).bind isNoneD) := PE.imp (pe_cmp (pc_isN ha)) (look1 op1_isN)
theorem de_notN {j p'} (ha : PE X a (tpD (X.kw la) X.mg W fa)) : PE X (.Compare a [.IsNot] [.Constant .none j p'] pos) (teD (X.kw la) X.mg W fun en => (fa en).bind notNoneD) := PE.imp (pe_cmp (pc_notN ha)) (look1 op1_notN)
theorem dt_isN {j p'} (ha : PE X a (tpD (X.kw la) X.mg W fa)) : PT X (.Compare a [.Is] [.Constant .none j p'] pos) (ttD (X.kw la) X.mg W fun en => ((fa en).bind isNoneD).bind asB) := PT.imp (pt_cmp (pc_isN ha)) fun σ H Q h => by
  have h' := lookT (fa := fun en => (fa en).bind isNoneD) σ H Q h
  exact look1 op1_isN σ H _ h'
theorem dt_notN {j p'} (ha : PE X a (tpD (X.kw la) X.mg W fa)) : PT X (.Compare a [.IsNot] [.Constant .none j p'] pos) (ttD (X.kw la) X.mg W fun en => ((fa en).bind notNoneD).bind asB) := PT.imp (pt_cmp (pc_notN ha)) fun σ H Q h => by
  have h' := lookT (fa := fun en => (fa en).bind notNoneD) σ H Q h
  exact look1 op1_notN σ H _ h'
/-! ### calls of built-ins -/
variable {x : Str} {p : Pos} {id T : String} {r : List V → Hp → VK → Prop}
theorem de_b1 {g : Cell → R Cell} (hc : CallR X (.builtin id) r) (hm : X.mg x = none) (hv : bootBuiltins x = some (.builtin id)) (ho : Op1 (X.kw la) (fun v H Q => r [v] H Q) g) (ha : PE X a (tpD (X.kw la) X.mg W fa)) (hg : Gl X x := by rfl) (hn : x ≠ "__name__" := by decide) (hdb : (x == ("__debug__" : Str)) = false := by decide)
    (he : starEach (a :: []) X.env = (false, eval a X.env) :: starEach [] X.env := by rfl) (hpl : (backTo pos (starEach [] X.env)).any (·.1) = false := by rfl) :
    PE X (.Call (.Name x p) [a] [] pos) (teD (X.kw la) X.mg W fun en => (fa en).bind g) := PE.imp (pe_callB hc hg hm hv (pa_cons ha pa_nil he) hn hdb he hpl) (look1 ho)
theorem de_t1 {g : Cell → R Cell} (hc : CallR X (.type T) r) (hm : X.mg x = none) (hv : bootBuiltins x = some (.type T)) (ho : Op1 (X.kw la) (fun v H Q => r [v] H Q) g) (ha : PE X a (tpD (X.kw la) X.mg W fa)) (hg : Gl X x := by rfl) (hn : x ≠ "__name__" := by decide) (hdb : (x == ("__debug__" : Str)) = false := by decide)
    (he : starEach (a :: []) X.env = (false, eval a X.env) :: starEach [] X.env := by rfl) (hpl : (backTo pos (starEach [] X.env)).any (·.1) = false := by rfl) :
    PE X (.Call (.Name x p) [a] [] pos) (teD (X.kw la) X.mg W fun en => (fa en).bind g) := PE.imp (pe_callTy hc hg hm hv (pa_cons ha pa_nil he) hn hdb he hpl) (look1 ho)
theorem de_b2 {g : Cell → Cell → R Cell} (hc : CallR X (.builtin id) r) (hm : X.mg x = none) (hv : bootBuiltins x = some (.builtin id)) (ho : Op2 (X.kw la) (fun v u H Q => r [v, u] H Q) g) (ha : PE X a (tpD (X.kw la) X.mg W fa)) (hb : PE X b (tpD (X.kw la) X.mg W fb)) (hg : Gl X x := by rfl) (hn : x ≠ "__name__" := by decide) (hdb : (x == ("__debug__" : Str)) = false := by decide)
    (he : starEach (a :: [b]) X.env = (false, eval a X.env) :: starEach [b] X.env := by rfl) (he2 : starEach (b :: []) X.env = (false, eval b X.env) :: starEach [] X.env := by rfl) (hpl : (backTo pos (starEach [b] X.env)).any (·.1) = false := by rfl) :
    PE X (.Call (.Name x p) [a, b] [] pos) (teD (X.kw la) X.mg W fun en => (fa en).bind fun y => (fb en).bind fun z => g y z) := PE.imp (pe_callB hc hg hm hv (pa_cons ha (pa_cons hb pa_nil he2) he) hn hdb he hpl) (look2 ho)
theorem de_len (hm : X.mg "len" = none) (ha : PE X a (tpD (X.kw la) X.mg W fa)) (hg : Gl X "len" := by rfl)
    (he : starEach (a :: []) X.env = (false, eval a X.env) :: starEach [] X.env := by rfl) (hpl : (backTo pos (starEach [] X.env)).any (·.1) = false := by rfl) :
    PE X (.Call (.Name "len" p) [a] [] pos) (teD (X.kw la) X.mg W fun en => (fa en).bind lenD) := de_b1 (CallR.or call_len_seq call_len_str) hm PySem.boot_len op1_len ha hg (by decide) (by decide) he hpl
theorem de_list (hm : X.mg "list" = none) (ha : PE X a (tpD (X.kw la) X.mg W fa)) (hg : Gl X "list" := by rfl)
    (he : starEach (a :: []) X.env = (false, eval a X.env) :: starEach [] X.env := by rfl) (hpl : (backTo pos (starEach [] X.env)).any (·.1) = false := by rfl) :
    PE X (.Call (.Name "list" p) [a] [] pos) (teD (X.kw la) X.mg W fun en => (fa en).bind listD) := de_t1 call_list_of hm (by decide +kernel) op1_list ha hg (by decide) (by decide) he hpl
theorem de_tuple (hm : X.mg "tuple" = none) (ha : PE X a (tpD (X.kw la) X.mg W fa)) (hg : Gl X "tuple" := by rfl)
    (he : starEach (a :: []) X.env = (false, eval a X.env) :: starEach [] X.env := by rfl) (hpl : (backTo pos (starEach [] X.env)).any (·.1) = false := by rfl) :
    PE X (.Call (.Name "tuple" p) [a] [] pos) (teD (X.kw la) X.mg W fun en => (fa en).bind tupleD) := de_t1 call_tuple_of hm (by decide +kernel) op1_tuple ha hg (by decide) (by decide) he hpl
theorem de_max (hc : X.calm = true) (hm : X.mg "max" = none) (ha : PE X a (tpD (X.kw la) X.mg W fa)) (hb : PE X b (tpD (X.kw la) X.mg W fb)) (hg : Gl X "max" := by rfl)
    (he : starEach (a :: [b]) X.env = (false, eval a X.env) :: starEach [b] X.env := by rfl) (he2 : starEach (b :: []) X.env = (false, eval b X.env) :: starEach [] X.env := by rfl) (hpl : (backTo pos (starEach [b] X.env)).any (·.1) = false := by rfl) :
    PE X (.Call (.Name "max" p) [a, b] [] pos) (teD (X.kw la) X.mg W fun en => (fa en).bind fun y => (fb en).bind fun z => maxD y z) := de_b2 (call_max2 hc) hm (by decide +kernel) op2_max ha hb hg (by decide) (by decide) he he2 hpl
theorem de_min (hc : X.calm = true) (hm : X.mg "min" = none) (ha : PE X a (tpD (X.kw la) X.mg W fa)) (hb : PE X b (tpD (X.kw la) X.mg W fb)) (hg : Gl X "min" := by rfl)
    (he : starEach (a :: [b]) X.env = (false, eval a X.env) :: starEach [b] X.env := by rfl) (he2 : starEach (b :: []) X.env = (false, eval b X.env) :: starEach [] X.env := by rfl) (hpl : (backTo pos (starEach [b] X.env)).any (·.1) = false := by rfl) :
    PE X (.Call (.Name "min" p) [a, b] [] pos) (teD (X.kw la) X.mg W fun en => (fa en).bind fun y => (fb en).bind fun z => minD y z) := de_b2 (call_min2 hc) hm (by decide +kernel) op2_min ha hb hg (by decide) (by decide) he he2 hpl
/-- isinstance(a, T) -/
theorem de_isi {n : Str} {np : Pos} {T : String} (h5 : Five T) (hm : X.mg "isinstance" = none) (hmT : X.mg n = none) (hvT : bootBuiltins n = some (.type T)) (ha : PE X a (tpD (X.kw la) X.mg W fa)) (hg : Gl X "isinstance" := by rfl) (hgT : Gl X n := by rfl) (hnT : n ≠ "__name__" := by decide) (hdT : (n == ("__debug__" : Str)) = false := by decide)
    (he : starEach (a :: [.Name n np]) X.env = (false, eval a X.env) :: starEach [.Name n np] X.env := by rfl) (he2 : starEach (.Name n np :: []) X.env = (false, eval (.Name n np) X.env) :: starEach [] X.env := by rfl) (hpl : (backTo pos (starEach [.Name n np] X.env)).any (·.1) = false := by rfl) :
    PE X (.Call (.Name "isinstance" p) [a, .Name n np] [] pos) (teD (X.kw la) X.mg W fun en => (fa en).bind (isiD T)) :=
  PE.imp (pe_callB call_isi hg hm (by decide +kernel) (pa_cons ha (pa_cons (pe_bltn (v := .ty T) hgT hmT hvT rfl hnT hdT) pa_nil he2) he) (by decide) (by decide) he hpl) (look1 (op1_isi h5))
/-! ### arguments -/
theorem CellR_dat {K : KW} {H : Hp} {O : Addr → Prop} {os : List Addr} {c : Cell} {v : V} {x : D} (n : ∀ a ∈ os, ¬ O a) (r : CellR K H (fun a => O a ∨ a ∈ os) os c v) (e : asD c = .ok x) : Dp K (hide H O) v x := by
  have s : Same (hide H (fun a => O a ∨ a ∈ os)) (hide H O) := hide_same (Same.refl H) fun _ _ _ z => .inl z
  cases c with
  | d y =>
    cases e
    exact Dp_mono s _ _ r.2
  | own ys =>
    cases e
    obtain ⟨a, vs, rfl, e2, e3, q⟩ := r
    exact .lst (SqL.of (hide_eq.mpr ⟨n a (by rw [e2]; exact List.mem_cons_self), e3⟩)) (DpAll_mono s _ _ q)
  | own2 yss =>
    cases e
    obtain ⟨a, as, rfl, e2, e3, q⟩ := r
    refine .lst (SqL.of (hide_eq.mpr ⟨n a (by rw [e2]; exact List.mem_cons_self), e3⟩)) ?_
    have na : ∀ b ∈ as, ¬ O b := fun b hb => n b (by rw [e2]; exact List.mem_cons_of_mem _ hb)
    clear e2 e3 n
    induction as generalizing yss with
    | nil =>
      cases yss with
      | nil => exact .nil
      | cons _ _ => exact q.elim
    | cons b as ih =>
      cases yss with
      | nil => exact q.elim
      | cons ys yss =>
        obtain ⟨⟨vs, e4, q1⟩, q2⟩ := q
        exact .cons (.lst (SqL.of (hide_eq.mpr ⟨na b List.mem_cons_self, e4⟩)) (DpAll_mono s _ _ q1)) (ih _ q2 fun b' hb => na b' (List.mem_cons_of_mem _ hb))
  | _ => cases e
variable {es : List Expr} {ga : Env → R (List D)}
def consR (x : R Cell) (r : R (List D)) : R (List D) := (x.bind asD).bind fun d => r.bind fun ds => .ok (d :: ds)
theorem asD_ex {c : Cell} {k : Str} {fs : List (Str × D)} (h : asD c = .ex k fs) : False := by
  unfold asD at h
  split at h <;> cases h
theorem da_nil : PA X [] (taD (X.kw la) X.mg W fun _ => .ok []) := PA.imp pa_nil fun σ H Q ⟨H0, O0, own, env, E, h⟩ => h [] H (Same.refl H) .nil
theorem da_cons (ha : PE X a (teD (X.kw la) X.mg W fa)) (hr : PA X es (taD (X.kw la) X.mg W ga)) (hs : starEach (a :: es) X.env = (false, eval a X.env) :: starEach es X.env := by rfl) : PA X (a :: es) (taD (X.kw la) X.mg W fun en => consR (fa en) (ga en)) := PA.imp (pa_cons ha hr hs) fun σ H Q ⟨H0, O0, own, env, E, h⟩ => by
  refine ⟨H0, O0, own, env, E, ?_⟩
  unfold consR at h
  cases q : fa env with
  | no => simp only [q, R.bind_no] at h; exact h
  | ex k fs => simp only [q, R.bind_ex] at h; exact h
  | ok c =>
    simp only [q, R.bind_ok] at h
    intro v H' os s fr nd r
    refine ⟨H0, O0, own, env, E.mono s, ?_⟩
    cases q2 : asD c with
    | no => simp only [q2, R.bind_no] at h; exact h.elim
    | ex k fs => exact (asD_ex q2).elim
    | ok d =>
      simp only [q2, R.bind_ok] at h
      have hd : Dp X.K (hide H' (tO O0 own)) v d := CellR_dat (fun a ha z => by
        obtain ⟨o, e⟩ := E.thereO a z
        rw [fr a ha] at e
        cases e) r q2
      cases q3 : ga env with
      | no => simp only [q3, R.bind_no] at h; exact h
      | ex k fs => simp only [q3, R.bind_ex] at h; exact fun H2 cls d' s' w => h H2 cls d' (s.trans s') w
      | ok ds =>
        simp only [q3, R.bind_ok] at h
        exact fun vs H2 s2 r2 => h (v :: vs) H2 (s.trans s2) (.cons (Dp_mono (hide_same s2 fun _ _ _ z => z) _ _ hd) r2)
def lstR (r : R (List D)) : R Cell := r.bind fun ds => if ds.length ≤ 16777216 then .ok (.own ds) else .no
def tupR (r : R (List D)) : R Cell := r.bind fun ds => if ds.length ≤ 16777216 then .ok (.d (.tuple ds)) else .no
theorem de_lst (ha : PA X es (taD (X.kw la) X.mg W ga)) : PE X (.List es pos) (teD (X.kw la) X.mg W fun en => lstR (ga en)) := PE.imp (pe_lst ha) fun σ H Q ⟨H0, O0, own, env, E, h⟩ => by
  refine ⟨H0, O0, own, env, E, ?_⟩
  unfold lstR at h
  cases q : ga env with
  | no => simp only [q, R.bind_no] at h; exact h
  | ex k fs => simp only [q, R.bind_ex] at h; exact h
  | ok ds =>
    simp only [q, R.bind_ok] at h
    intro vs H' s r
    split at h
    · rename_i hl
      exact ⟨by rw [DpAll_len r, sizeLine_eq]; exact hl, (Hand.mono s h).newL r⟩
    · exact h.elim
theorem de_tup {x1} (ha : PA X es (taD (X.kw la) X.mg W ga)) : PE X (.Tuple es x1 pos) (teD (X.kw la) X.mg W fun en => tupR (ga en)) := PE.imp (pe_tup ha) fun σ H Q ⟨H0, O0, own, env, E, h⟩ => by
  refine ⟨H0, O0, own, env, E, ?_⟩
  unfold tupR at h
  cases q : ga env with
  | no => simp only [q, R.bind_no] at h; exact h
  | ex k fs => simp only [q, R.bind_ex] at h; exact h
  | ok ds =>
    simp only [q, R.bind_ok] at h
    intro vs H' s r
    split at h
    · rename_i hl
      exact ⟨by rw [DpAll_len r, sizeLine_eq]; exact hl, (Hand.mono s h).newT (E.mono s).thereO r⟩
    · exact h.elim
end
end DL
/-! ## DL, part 5: slices, calls of defs, what is walked, comprehensions -/
namespace DL
open PySem PySem.Spec PyProof.Rows L2
/-! ### slices -/
def asI (c : Cell) : R (Option Int) := match c with
  | .d (.int i) => .ok (some i)
  | _ => .no
def HandO (K : KW) (mg : Str → Option Value) (W : WX) (O : Addr → Prop) (H : Hp) (σ : L2.St) (r : R (Option Int)) (Q : Option Int → Hp → Prop) : Prop :=
  match r with
  | .no => False
  | .ok o => ∀ H', Same H H' → Q o H'
  | .ex k fs => ∀ H' cls d, Same H H' → ExcR K mg (hide H' O) cls d k fs → W cls d σ H'
def toD (K : KW) (mg : Str → Option Value) (W : WX) (f : Env → R (Option Int)) : TO := fun σ H Q => ∃ H0 O0 own env, EnvOk K H0 H O0 own σ env ∧ HandO K mg W (tO O0 own) H σ (f env) Q
theorem PO.imp {X : Cx} {e : Option Expr} {t t' : TO} (h : PO X e t) (i : ∀ σ H Q, t' σ H Q → t σ H Q) : PO X e t' := ⟨fun pins s σ H Q I q => h.run pins s σ H Q I (i _ _ _ q)⟩
section
variable {X : Cx} {la : Nat → Addr} {W : WX} {e a b c : Expr} {fa fb fc : Env → R Cell} {pos p2 : Pos} {lo hi : Option Expr} {fl fh : Env → R (Option Int)}
theorem dpo_none : PO X none (toD (X.kw la) X.mg W fun _ => .ok none) := PO.imp po_none fun σ H Q ⟨H0, O0, own, env, E, h⟩ => h H (Same.refl H)
theorem dpo_some (ha : PE X a (teD (X.kw la) X.mg W fa)) : PO X (some a) (toD (X.kw la) X.mg W fun en => (fa en).bind asI) := PO.imp (po_some ha) fun σ H Q ⟨H0, O0, own, env, E, h⟩ => by
  refine ⟨H0, O0, own, env, E, ?_⟩
  cases q : fa env with
  | no => simp only [q, R.bind_no] at h; exact h
  | ex k fs => simp only [q, R.bind_ex] at h; exact h
  | ok c =>
    simp only [q, R.bind_ok] at h
    intro v H' os s _ _ r
    unfold asI at h
    split at h
    · rename_i i
      have e := Dp_int r.2
      exact ⟨i, e, h H' s⟩
    · exact h.elim
theorem cut_rel {K : KW} {H : Hp} {vs : List V} {xs : List D} (q : DpAll K H vs xs) (lo hi : Option Int) : DpAll K H (cutV vs lo hi) (cutD xs lo hi) := by
  unfold cutV cutD
  rw [DpAll_len q]
  exact DpAll_take _ (DpAll_drop _ q)
theorem cut_whole {α : Type} {xs : List α} {lo hi : Option Int} (h : HT.sIx xs.length 0 lo = 0 ∧ HT.sIx xs.length xs.length hi = xs.length) : cutD xs lo hi = xs := by
  unfold cutD
  rw [h.1, h.2]
  simp
theorem de_slice (ha : PE X a (tpD (X.kw la) X.mg W fa)) (hl : PO X lo (toD (X.kw la) X.mg W fl)) (hh : PO X hi (toD (X.kw la) X.mg W fh)) :
    PE X (.Subscript a (.Slice lo hi none p2) pos) (teD (X.kw la) X.mg W fun en => (fa en).bind fun x => (fl en).bind fun l => (fh en).bind fun u => sliceD x l u) :=
  PE.imp (pe_slice (SlR.or sl_list sl_tupA) ha hl hh) fun σ H Q ⟨H0, O0, own, env, E, h⟩ => by
  refine ⟨H0, O0, own, env, E, ?_⟩
  cases q : fa env with
  | no => simp only [q, R.bind_no] at h; exact h
  | ex k fs => simp only [q, R.bind_ex] at h; exact h
  | ok c =>
    simp only [q, R.bind_ok] at h
    intro v H1 s1 r1
    refine ⟨H0, O0, own, env, E.mono s1, ?_⟩
    cases q2 : fl env with
    | no => simp only [q2, R.bind_no] at h; exact h
    | ex k fs => simp only [q2, R.bind_ex] at h; exact fun H' cls d s' w => h H' cls d (s1.trans s') w
    | ok l =>
      simp only [q2, R.bind_ok] at h
      intro H2 s2
      refine ⟨H0, O0, own, env, E.mono (s1.trans s2), ?_⟩
      cases q3 : fh env with
      | no => simp only [q3, R.bind_no] at h; exact h
      | ex k fs => simp only [q3, R.bind_ex] at h; exact fun H' cls d s' w => h H' cls d ((s1.trans s2).trans s') w
      | ok u =>
        simp only [q3, R.bind_ok] at h
        intro H3 s3
        have s := (s1.trans s2).trans s3
        have h' := Hand.mono s h
        have r3 := PeekR_mono (s2.trans s3) (fun _ _ _ z => z) r1
        unfold sliceD at h'
        split at h'
        · obtain ⟨a, vs, rfl, s, q⟩ := Dp_seq (Peek_d r3)
          exact .inl ⟨a, vs, rfl, SqL_mono hide_sub s, h'.newL (cut_rel q l u)⟩
        · obtain ⟨a, vs, rfl, s, q⟩ := Peek_own r3
          exact .inl ⟨a, vs, rfl, SqL.of s, h'.newL (cut_rel q l u)⟩
        · obtain ⟨a, vs, rfl, sq, q⟩ := Dp_tup (Peek_d r3)
          refine .inr ⟨a, vs, rfl, SqT_mono hide_sub sq, fun w => ?_, fun _ => h'.newT (E.mono s).thereO (cut_rel q l u)⟩
          rw [DpAll_len q] at w
          rw [cut_whole w] at h'
          exact h'.dat (.tup sq q)
        · exact h'.elim
/-! ### a def's promise, its call -/
abbrev kw0 (K : PySem.W.Frag) (w : World) (mg : Str → Option Value) : KW := ⟨K, w, mg, fun _ => 0⟩
theorem CellR_at {K : PySem.W.Frag} {w : World} {mg : Str → Option Value} {la : Nat → Addr} {H : Hp} {O : Addr → Prop} {os : List Addr} {c : Cell} {v : V} (p : c.plain = true) (r : CellR (kw0 K w mg) H O os c v) : CellR ⟨K, w, mg, la⟩ H O os c v := CellR_la (K := kw0 K w mg) os c v p r
theorem CellR_to {K : PySem.W.Frag} {w : World} {mg : Str → Option Value} {la : Nat → Addr} {H : Hp} {O : Addr → Prop} {os : List Addr} {c : Cell} {v : V} (p : c.plain = true) (r : CellR ⟨K, w, mg, la⟩ H O os c v) : CellR (kw0 K w mg) H O os c v := CellR_la (K := ⟨K, w, mg, la⟩) os c v p r
def spD (K : PySem.W.Frag) (w : World) (mg : Str → Option Value) (n : Nat) (m : List D → R Cell) : Sp := fun vs H Q E => ∃ (O : Addr → Prop) (ds : List D), (∀ a, O a → ∃ o, H a = some o) ∧ ds.length = n ∧ DpAll K (hide H O) vs ds ∧
  match m ds with
  | .no => False
  | .ok c => ∀ v H' os, Same H H' → (∀ a ∈ os, H a = none) → os.Nodup → CellR (kw0 K w mg) H' (fun a => O a ∨ a ∈ os) os c v → Q v H'
  | .ex k fs => ∀ H' cls d, Same H H' → ExcR K mg (hide H' O) cls d k fs → E cls d H'
variable {es : List Expr} {ga : Env → R (List D)} {k n : Nat} {f : Addr} {fd : FuncData} {ps : List Str} {m : List D → R Cell} {x : Str} {p : Pos}
theorem de_call (F : FnOk X.prog X.w (X.kw la) X.mg X.base (L2.CX X.prog X.w) k f fd ps (spD X.K X.w X.mg n m)) (hr : Room k X.A) (tk : Takes X W) (hm : X.mg x = some (.ref f)) (hk : PySem.W.keepIn X.K (.ref f) = true) (hb : Binds X.K fd ps []) (ha : PA X (e :: es) (taD (X.kw la) X.mg W ga)) (hg : Gl X x := by rfl)
    (hdb : (x == ("__debug__" : Str)) = false := by decide) (he : starEach (e :: es) X.env = (false, eval e X.env) :: starEach es X.env := by rfl) (hpl : (backTo pos (starEach es X.env)).any (·.1) = false := by rfl) (hn : ∀ ds, ds.length ≠ n → m ds = .no) (hp : ∀ ds c, m ds = .ok c → c.plain = true) :
    PE X (.Call (.Name x p) (e :: es) [] pos) (teD (X.kw la) X.mg W fun en => (ga en).bind m) := PE.imp (pe_callS F hr hg hm hk hb (fun σ => passAt tk σ) ha hdb he hpl) fun σ H Q ⟨H0, O0, own, env, E, h⟩ => by
  refine ⟨H0, O0, own, env, E, ?_⟩
  cases q : ga env with
  | no => simp only [q, R.bind_no] at h; exact h
  | ex k fs => simp only [q, R.bind_ex] at h; exact h
  | ok ds =>
    simp only [q, R.bind_ok] at h
    intro vs H1 s1 r1
    by_cases hl : ds.length = n
    · refine ⟨tO O0 own, ds, (E.mono s1).thereO, hl, r1, ?_⟩
      cases q2 : m ds with
      | no => rw [q2] at h; exact h
      | ok c =>
        rw [q2] at h
        exact fun v H' os s f nd r => h v H' os (s1.trans s) (fun a ha => s1.free (f a ha)) nd (CellR_at (hp ds c q2) r)
      | ex k fs =>
        rw [q2] at h
        exact fun H' cls d s w => h H' cls d (s1.trans s) w
    · rw [hn ds hl] at h
      exact h.elim
/-- an exception is not told -/
def R.quiet {α : Type} : R α → R α
  | .ex _ _ => .no
  | r => r
theorem de_call0 (F : FnOk X.prog X.w (X.kw la) X.mg X.base (L2.CX X.prog X.w) k f fd ps (spD X.K X.w X.mg 0 m)) (hr : Room k X.A) (hm : X.mg x = some (.ref f)) (hk : PySem.W.keepIn X.K (.ref f) = true) (hb : Binds X.K fd ps []) (hp : ∀ c, m [] = .ok c → c.plain = true) (hg : Gl X x := by rfl) (hdb : (x == ("__debug__" : Str)) = false := by decide) :
    PE X (.Call (.Name x p) [] [] pos) (teD (X.kw la) X.mg W fun _ => (m []).quiet) := PE.imp (pe_call0 (dvs := []) F hr hg hm hk hb .nil passL hdb) fun σ H Q ⟨H0, O0, own, env, E, h⟩ => by
  refine ⟨tO O0 own, [], E.thereO, rfl, .nil, ?_⟩
  cases q2 : m [] with
  | no => rw [q2] at h; exact h
  | ok c => rw [q2] at h; exact fun v H' os s f nd r => h v H' os s f nd (CellR_at (hp c q2) r)
  | ex k fs => rw [q2] at h; exact h.elim
/-- the arguments looked at (own lists lent); nothing of them comes back -/
def flatD : D → Bool
  | .none => true
  | .bool _ => true
  | .int _ => true
  | .str _ => true
  | _ => false
def R.lent (r : R Cell) : R Cell := match r with
  | .ok (.d x) => if flatD x = true then .ok (.d x) else .no
  | .ok _ => .no
  | .no => .no
  | .ex _ _ => .no
def viewAll : List Cell → R (List D)
  | [] => .ok []
  | c :: cs => match c.view with
    | some x => (viewAll cs).bind fun xs => .ok (x :: xs)
    | none => .no
theorem viewAll_ok {K : KW} {H : Hp} {O : Addr → Prop} : ∀ {cs : List Cell} {vs : List V} {ds : List D}, PeekAll K H O cs vs → viewAll cs = .ok ds → DpAll K H vs ds
  | [], [], _, _, e => by cases e; exact .nil
  | c :: cs, v :: vs, ds, ⟨q, r⟩, e => by
    unfold viewAll at e
    split at e
    · rename_i x ev
      cases q2 : viewAll cs with
      | no => rw [q2] at e; cases e
      | ex k fs => rw [q2] at e; cases e
      | ok xs =>
        rw [q2] at e
        cases e
        exact .cons (Peek_view q ev) (viewAll_ok r q2)
    · cases e
  | [], _ :: _, _, r, _ => r.elim
  | _ :: _, [], _, r, _ => r.elim
theorem viewAll_ex : ∀ {cs : List Cell} {k : Str} {fs : List (Str × D)}, viewAll cs = .ex k fs → False
  | [], _, _, e => by cases e
  | c :: cs, k, fs, e => by
    unfold viewAll at e
    split at e
    · cases q2 : viewAll cs with
      | no => rw [q2] at e; cases e
      | ok xs => rw [q2] at e; cases e
      | ex k' fs' => exact viewAll_ex q2
    · cases e
def consC (x : R Cell) (r : R (List Cell)) : R (List Cell) := x.bind fun d => r.bind fun ds => .ok (d :: ds)
variable {gc : Env → R (List Cell)}
theorem dc_nil : PA X [] (tcD (X.kw la) X.mg W fun _ => .ok []) := PA.imp pa_nil fun σ H Q ⟨H0, O0, own, env, E, h⟩ => h [] H (Same.refl H) trivial
theorem dc_cons (ha : PE X a (tpD (X.kw la) X.mg W fa)) (hr : PA X es (tcD (X.kw la) X.mg W gc)) (hs : starEach (a :: es) X.env = (false, eval a X.env) :: starEach es X.env := by rfl) : PA X (a :: es) (tcD (X.kw la) X.mg W fun en => consC (fa en) (gc en)) := PA.imp (pa_cons ha hr hs) fun σ H Q ⟨H0, O0, own, env, E, h⟩ => by
  refine ⟨H0, O0, own, env, E, ?_⟩
  unfold consC at h
  cases q : fa env with
  | no => simp only [q, R.bind_no] at h; exact h
  | ex k fs => simp only [q, R.bind_ex] at h; exact h
  | ok c =>
    simp only [q, R.bind_ok] at h
    intro v H' s r
    refine ⟨H0, O0, own, env, E.mono s, ?_⟩
    cases q3 : gc env with
    | no => simp only [q3, R.bind_no] at h; exact h
    | ex k fs => simp only [q3, R.bind_ex] at h; exact fun H2 cls d' s' w => h H2 cls d' (s.trans s') w
    | ok ds =>
      simp only [q3, R.bind_ok] at h
      exact fun vs H2 s2 r2 => h (v :: vs) H2 (s.trans s2) ⟨PeekR_mono s2 (fun _ _ _ z => z) r, r2⟩
theorem hide_no {H : Hp} {O : Addr → Prop} (hO : ∀ a, ¬ O a) : Same H (hide H O) := fun a o e => hide_eq.mpr ⟨hO a, e⟩
theorem Dp_flat {K : KW} {H H' : Hp} {v : V} {x : D} (h : Dp K H v x) (f : flatD x = true) : Dp K H' v x := by
  cases h with
  | non => exact .non
  | bl b => exact .bl b
  | int i => exact .int i
  | str s => exact .str s
  | lst _ _ => cases f
  | tup _ _ => cases f
theorem de_lend (F : FnOk X.prog X.w (X.kw la) X.mg X.base (L2.CX X.prog X.w) k f fd ps (spD X.K X.w X.mg n m)) (hr : Room k X.A) (tk : Takes X W) (hm : X.mg x = some (.ref f)) (hk : PySem.W.keepIn X.K (.ref f) = true) (hb : Binds X.K fd ps []) (ha : PA X (e :: es) (tcD (X.kw la) X.mg W gc)) (hg : Gl X x := by rfl)
    (hdb : (x == ("__debug__" : Str)) = false := by decide) (he : starEach (e :: es) X.env = (false, eval e X.env) :: starEach es X.env := by rfl) (hpl : (backTo pos (starEach es X.env)).any (·.1) = false := by rfl) (hn : ∀ ds, ds.length ≠ n → m ds = .no) (hp : ∀ ds c, m ds = .ok c → c.plain = true) :
    PE X (.Call (.Name x p) (e :: es) [] pos) (teD (X.kw la) X.mg W fun en => (gc en).bind fun cs => (viewAll cs).bind fun ds => (m ds).lent) := PE.imp (pe_callS F hr hg hm hk hb (fun σ => passAt tk σ) ha hdb he hpl) fun σ H Q ⟨H0, O0, own, env, E, h⟩ => by
  refine ⟨H0, O0, own, env, E, ?_⟩
  cases q : gc env with
  | no => simp only [q, R.bind_no] at h; exact h
  | ex k fs => simp only [q, R.bind_ex] at h; exact h
  | ok cs =>
    simp only [q, R.bind_ok] at h
    intro vs H1 s1 r1
    cases q1 : viewAll cs with
    | no => simp only [q1, R.bind_no] at h; exact h.elim
    | ex k fs => exact (viewAll_ex q1).elim
    | ok ds =>
      simp only [q1, R.bind_ok] at h
      by_cases hl : ds.length = n
      · refine ⟨fun _ => False, ds, fun a z => z.elim, hl, DpAll_mono (hide_no fun _ z => z) _ _ (viewAll_ok r1 q1), ?_⟩
        cases q2 : m ds with
        | no => rw [q2] at h; exact h
        | ex k fs =>
          rw [q2] at h
          exact h.elim
        | ok c =>
          rw [q2] at h
          unfold R.lent at h
          cases c with
          | d y =>
            dsimp only at h
            split at h
            · rename_i hf
              intro v H' os s fr nd r
              refine h v H' [] (s1.trans s) (fun a ha => by cases ha) List.nodup_nil ⟨rfl, Dp_flat r.2 hf⟩
            · exact h.elim
          | _ => exact h.elim
      · rw [hn ds hl] at h
        exact h.elim
end
end DL
/-! ## DL, part 6: targets, what is walked, comprehensions -/
namespace DL
open PySem PySem.Spec PyProof.Rows L2
/-! ### targets -/
def gNames : List Nat → TGs
  | [] => gNil
  | i :: is => gCons (gName i) (gNames is)
def Tg.tg (K : PySem.W.Frag) : Tg → TG
  | .nm i => gName i
  | .tp is => gTup K is.length (gNames is)
theorem wipe_set_mem {i : Nat} {x : Option V} : ∀ {vs : List Nat} {σ : L2.St}, i ∈ vs → wipe (σ.set i x) vs = wipe σ vs := by
  have both : ∀ (vs : List Nat) (σ : L2.St), (i ∈ vs → wipe (σ.set i x) vs = wipe σ vs) ∧ (i ∉ vs → wipe (σ.set i x) vs = (wipe σ vs).set i x) := by
    intro vs
    induction vs with
    | nil => exact fun σ => ⟨fun h => (by cases h), fun _ => rfl⟩
    | cons v vs ih =>
      intro σ
      obtain ⟨h1, h2⟩ := ih σ
      constructor
      · intro h
        show (wipe (σ.set i x) vs).set v none = (wipe σ vs).set v none
        by_cases hv : i ∈ vs
        · rw [h1 hv]
        · have e : i = v := by
            cases h with
            | head => rfl
            | tail _ h => exact absurd h hv
          rw [h2 hv, e, List.set_set]
      · intro h
        show (wipe (σ.set i x) vs).set v none = ((wipe σ vs).set v none).set i x
        have hv : i ∉ vs := fun z => h (List.mem_cons_of_mem _ z)
        have hi : i ≠ v := fun z => h (by rw [z]; exact List.mem_cons_self)
        rw [h2 hv, List.set_comm _ _ hi]
  exact fun {vs σ} h => (both vs σ).1 h
section
variable {K : KW} {H0 H H' : Hp} {O0 : Addr → Prop} {own : Nat → List Addr} {σ : L2.St} {env : Env}
/-- data into a slot -/
theorem EnvOk.put (E : EnvOk K H0 H O0 own σ env) (i : Nat) {x : D} {v : V} (q : Dp K (hide H (tO O0 own)) v x) : ∃ own', EnvOk K H0 H O0 own' (σ.set i (some v)) (env.set i (.d x)) ∧ (∀ a, tO O0 own' a → tO O0 own a) ∧ ((i < env.length → own i = []) → own' = own) := by
  have sub : ∀ a, tO O0 (ownSet own i []) a → tO O0 own a := fun a z => by
    rcases z with z | ⟨j, z⟩
    · exact .inl z
    · unfold ownSet at z
      by_cases hj : j = i
      · rw [if_pos hj] at z
        cases z
      · rw [if_neg hj] at z
        exact .inr ⟨j, z⟩
  by_cases hi : i < env.length
  · refine ⟨_, E.set (c := .d x) (os := []) hi E.same (fun _ _ e _ => e) (fun _ _ _ _ _ e => e) (fun a ha => by cases ha) (fun a ha => by cases ha) (fun a ha => by cases ha) List.nodup_nil (.inr ⟨v, rfl, rfl, ?_⟩), sub, fun z => by
      funext j
      unfold ownSet
      by_cases hj : j = i
      · rw [if_pos hj, hj, z hi]
      · rw [if_neg hj]⟩
    exact Dp_mono (hide_same (Same.refl H) fun a o _ z => sub a z) _ _ q
  · refine ⟨own, ?_, fun a z => z, fun _ => rfl⟩
    rw [List.set_eq_of_length_le (by rw [E.len]; omega), List.set_eq_of_length_le (by omega)]
    exact E
theorem names_ok {Q : L2.St → Hp → Prop} {W0 : Addr → Prop} : ∀ (is : List Nat) (vs : List V) (xs : List D) (own : Nat → List Addr) (σ : L2.St) (env : Env), EnvOk K H0 H O0 own σ env → (∀ a, tO O0 own a → W0 a) → DpAll K (hide H W0) vs xs → is.length = xs.length →
    (∀ σ' own', EnvOk K H0 H O0 own' σ' (putAll is xs env) → (∀ a, tO O0 own' a → tO O0 own a) → (∀ ws, (∀ i ∈ is, i ∈ ws) → wipe σ' ws = wipe σ ws) → ((∀ i ∈ is, i < env.length → own i = []) → own' = own) → Q σ' H) → gNames is vs σ H Q
  | [], vs, xs, own, σ, env, E, sw, q, hl, h => by
    cases q with
    | nil => exact ⟨rfl, h σ own E (fun _ z => z) (fun _ _ => rfl) fun _ => rfl⟩
    | cons _ _ => cases hl
  | i :: is, vs, xs, own, σ, env, E, sw, q, hl, h => by
    cases q with
    | nil => cases hl
    | @cons v vs x xs q1 q2 =>
      obtain ⟨own', E', sub, ek⟩ := E.put i (Dp_mono (hide_same (Same.refl H) fun a o _ z => sw a z) _ _ q1)
      refine ⟨v, vs, rfl, ?_⟩
      refine names_ok is vs xs own' _ _ E' (fun a z => sw a (sub a z)) q2 (by simpa using hl) fun σ' own2 E2 sub2 hw ek2 => ?_
      refine h σ' own2 E2 (fun a z => sub a (sub2 a z)) (fun ws hi => ?_) fun z => ?_
      · rw [hw ws fun j hj => hi j (List.mem_cons_of_mem _ hj)]
        exact wipe_set_mem (hi i List.mem_cons_self)
      · have e1 := ek fun hl => z i List.mem_cons_self hl
        rw [ek2 fun j hj hl => by
          rw [List.length_set] at hl
          rw [e1]
          exact z j (List.mem_cons_of_mem _ hj) hl]
        exact e1
theorem tg_ok {Q : L2.St → Hp → Prop} (T : Tg) {x : D} {v : V} {env' : Env} (E : EnvOk K H0 H O0 own σ env) (q : Dp K (hide H (tO O0 own)) v x) (e : T.put x env = some env')
    (h : ∀ σ' own', EnvOk K H0 H O0 own' σ' env' → (∀ a, tO O0 own' a → tO O0 own a) → (∀ ws, (∀ i ∈ T.slots, i ∈ ws) → wipe σ' ws = wipe σ ws) → ((∀ i ∈ T.slots, i < env.length → own i = []) → own' = own) → Q σ' H) : T.tg K v σ H Q := by
  cases T with
  | nm i =>
    cases e
    obtain ⟨own', E', sub, ek⟩ := E.put i q
    exact h _ own' E' sub (fun ws hi => wipe_set_mem (hi i (List.mem_singleton.mpr rfl))) fun z => ek (z i (List.mem_singleton.mpr rfl))
  | tp is =>
    cases x with
    | tuple xs =>
      obtain ⟨a, vs, rfl, s, q⟩ := Dp_tup q
      unfold Tg.put at e
      dsimp only at e
      split at e
      · rename_i hl
        cases e
        refine ⟨a, vs, rfl, SqT_mono hide_sub s, by rw [DpAll_len q]; exact hl, ?_⟩
        exact names_ok is vs xs own σ env E (fun _ z => z) q hl.symm h
      · cases e
    | _ => cases e
end
/-! ### what is walked -/
/-- the walk J, begun at H1, goes over data xs, as long as what stood stands -/
def ItS (K : KW) (H1 : Hp) (O : Addr → Prop) (J : It) (xs : List D) : Prop := ∀ i H2, Same H1 H2 →
  (∀ x, xs[i]? = some x → J.go i H2 ∧ ∀ v H', J.yld i H2 v H' → H' = H2 ∧ Dp K (hide H1 O) v x) ∧ (xs.length ≤ i → J.stop i H2)
/-- .. as long as what nobody owns stands -/
def ItF (K : KW) (H1 : Hp) (O : Addr → Prop) (J : It) (xs : List D) : Prop := ∀ i H2 O2, Same (hide H1 O) (hide H2 O2) →
  (∀ x, xs[i]? = some x → J.go i H2 ∧ ∀ v H', J.yld i H2 v H' → H' = H2 ∧ Dp K (hide H1 O) v x) ∧ (xs.length ≤ i → J.stop i H2)
theorem ItF.s {K : KW} {H1 : Hp} {O : Addr → Prop} {J : It} {xs : List D} (h : ItF K H1 O J xs) : ItS K H1 O J xs := fun i H2 s => h i H2 O (hide_same s fun _ _ _ z => z)
def HandI (K : KW) (mg : Str → Option Value) (W : WX) (O : Addr → Prop) (H : Hp) (σ : L2.St) (I : Hp → It → List D → Prop) (r : R (List D)) (P : It → Hp → Prop) : Prop :=
  match r with
  | .no => False
  | .ok xs => ∀ J H1, Same H H1 → I H1 J xs → P J H1
  | .ex k fs => ∀ H' cls d, Same H H' → ExcR K mg (hide H' O) cls d k fs → W cls d σ H'
def wcD (K : KW) (mg : Str → Option Value) (W : WX) (fi : Env → R (List D)) : TI := fun σ H P => ∃ H0 O0 own env, EnvOk K H0 H O0 own σ env ∧ HandI K mg W (tO O0 own) H σ (fun H1 J xs => ItS K H1 (tO O0 own) J xs) (fi env) P
def wfD (K : KW) (mg : Str → Option Value) (W : WX) (fi : Env → R (List D)) : TI := fun σ H P => ∃ H0 O0 own env, EnvOk K H0 H O0 own σ env ∧ HandI K mg W (tO O0 own) H σ (fun H1 J xs => ItF K H1 (tO O0 own) J xs) (fi env) P
section
variable {X : Cx} {la : Nat → Addr} {W : WX} {tg e l a b c : Expr} {fa fb fc : Env → R Cell} {fi : Env → R (List D)} {pos p : Pos}
theorem PI.imp {t t' : TI} (h : PI X tg l t) (i : ∀ σ H Q, t' σ H Q → t σ H Q) : PI X tg l t' := ⟨fun pins s σ H Q I q => h.run pins s σ H Q I (i _ _ _ q)⟩
theorem di_of (h : PI X tg l (wfD (X.kw la) X.mg W fi)) : PI X tg l (wcD (X.kw la) X.mg W fi) := PI.imp h fun σ H P ⟨H0, O0, own, env, E, h⟩ => by
  refine ⟨H0, O0, own, env, E, ?_⟩
  cases q : fi env with
  | no => rw [q] at h; exact h
  | ex k fs => rw [q] at h; exact h
  | ok xs =>
    rw [q] at h
    exact fun J H1 s i => h J H1 s i.s
theorem itS_l {K : KW} {H1 : Hp} {O : Addr → Prop} {a : Addr} {vs : List V} {xs : List D} (s : SqL K H1 a vs) (q : DpAll K (hide H1 O) vs xs) : ItS K H1 O (Itl K a) xs := fun i H2 k => by
  refine ⟨fun x e => ?_, fun e => ⟨vs, SqL_mono k s, by rw [DpAll_len q]; exact e⟩⟩
  obtain ⟨v, e1, e2⟩ := DpAll_get q e
  refine ⟨⟨vs, v, SqL_mono k s, e1⟩, fun u H' y => ⟨y.1, ?_⟩⟩
  have e3 := y.2 vs (SqL_mono k s)
  rw [e1] at e3
  cases e3
  exact e2
theorem itS_t {K : KW} {H1 : Hp} {O : Addr → Prop} {a : Addr} {vs : List V} {xs : List D} (s : SqT K H1 a vs) (q : DpAll K (hide H1 O) vs xs) : ItS K H1 O (Itt K a) xs := fun i H2 k => by
  refine ⟨fun x e => ?_, fun e => ⟨vs, SqT_mono k s, by rw [DpAll_len q]; exact e⟩⟩
  obtain ⟨v, e1, e2⟩ := DpAll_get q e
  refine ⟨⟨vs, v, SqT_mono k s, e1⟩, fun u H' y => ⟨y.1, ?_⟩⟩
  have e3 := y.2 vs (SqT_mono k s)
  rw [e1] at e3
  cases e3
  exact e2
theorem itF_l {K : KW} {H1 : Hp} {O : Addr → Prop} {a : Addr} {vs : List V} {xs : List D} (s : SqL K (hide H1 O) a vs) (q : DpAll K (hide H1 O) vs xs) : ItF K H1 O (Itl K a) xs := fun i H2 O2 k => by
  have k' : Same (hide H1 O) H2 := k.trans hide_sub
  refine ⟨fun x e => ?_, fun e => ⟨vs, SqL_mono k' s, by rw [DpAll_len q]; exact e⟩⟩
  obtain ⟨v, e1, e2⟩ := DpAll_get q e
  refine ⟨⟨vs, v, SqL_mono k' s, e1⟩, fun u H' y => ⟨y.1, ?_⟩⟩
  have e3 := y.2 vs (SqL_mono k' s)
  rw [e1] at e3
  cases e3
  exact e2
theorem itF_t {K : KW} {H1 : Hp} {O : Addr → Prop} {a : Addr} {vs : List V} {xs : List D} (s : SqT K (hide H1 O) a vs) (q : DpAll K (hide H1 O) vs xs) : ItF K H1 O (Itt K a) xs := fun i H2 O2 k => by
  have k' : Same (hide H1 O) H2 := k.trans hide_sub
  refine ⟨fun x e => ?_, fun e => ⟨vs, SqT_mono k' s, by rw [DpAll_len q]; exact e⟩⟩
  obtain ⟨v, e1, e2⟩ := DpAll_get q e
  refine ⟨⟨vs, v, SqT_mono k' s, e1⟩, fun u H' y => ⟨y.1, ?_⟩⟩
  have e3 := y.2 vs (SqT_mono k' s)
  rw [e1] at e3
  cases e3
  exact e2
/-- a list or a tuple that is looked at: for a comprehension -/
theorem di_seq (ha : PE X l (tpD (X.kw la) X.mg W fa)) : PI X tg l (wcD (X.kw la) X.mg W fun en => (fa en).bind itemsR) := ⟨fun pins s σ H P I ⟨H0, O0, own, env, E, h⟩ => by
  cases q : fa env with
  | no => simp only [q, R.bind_no] at h; exact h.elim
  | ex k fs =>
    simp only [q, R.bind_ex] at h
    refine (pi_list ha).run pins s σ H P I ⟨H0, O0, own, env, E, ?_⟩
    rw [q]
    exact h
  | ok c =>
    simp only [q, R.bind_ok] at h
    have look : ∀ xs, c.items = some xs → (∀ J H1, Same H H1 → ItS (X.kw la) H1 (tO O0 own) J xs → P J H1) → wpAny (model X.prog X.w) X.A (eval l X.env) (fun v s1 => wpAny (model X.prog X.w) X.A (pyIter v) (PIE X pins σ tg P) X.xe s1) X.xe s := fun xs ex h => by
      cases c with
      | own ys =>
        cases ex
        refine (pi_list ha).run pins s σ H P I ⟨H0, O0, own, env, E, ?_⟩
        rw [q]
        intro v H1 s1 r
        obtain ⟨a, vs, e1, e2, e3⟩ := Peek_own r
        exact ⟨a, e1, ⟨vs, SqL.of e2⟩, h _ H1 s1 (itS_l (SqL.of e2) e3)⟩
      | d y =>
        cases y with
        | list ys =>
          cases ex
          refine (pi_list ha).run pins s σ H P I ⟨H0, O0, own, env, E, ?_⟩
          rw [q]
          intro v H1 s1 r
          obtain ⟨a, vs, e1, e2, e3⟩ := Dp_seq (Peek_d r)
          exact ⟨a, e1, ⟨vs, SqL_mono hide_sub e2⟩, h _ H1 s1 (itS_l (SqL_mono hide_sub e2) e3)⟩
        | tuple ys =>
          cases ex
          refine (pi_tup ha).run pins s σ H P I ⟨H0, O0, own, env, E, ?_⟩
          rw [q]
          intro v H1 s1 r
          obtain ⟨a, vs, e1, e2, e3⟩ := Dp_tup (Peek_d r)
          exact ⟨a, e1, ⟨vs, SqT_mono hide_sub e2⟩, h _ H1 s1 (itS_t (SqT_mono hide_sub e2) e3)⟩
        | _ => cases ex
      | _ => cases ex
    unfold itemsR at h
    cases q2 : c.items with
    | none =>
      simp only [q2] at h
      exact h.elim
    | some xs =>
      simp only [q2] at h
      exact look xs q2 h⟩
/-- a list or a tuple, data or new: for a loop -/
theorem df_seq (ha : PE X l (teD (X.kw la) X.mg W fa)) : PI X tg l (wfD (X.kw la) X.mg W fun en => (fa en).bind itemsR) := ⟨fun pins s σ H P I ⟨H0, O0, own, env, E, h⟩ => by
  cases q : fa env with
  | no => simp only [q, R.bind_no] at h; exact h.elim
  | ex k fs =>
    simp only [q, R.bind_ex] at h
    refine (pi_list ha).run pins s σ H P I ⟨H0, O0, own, env, E, ?_⟩
    rw [q]
    exact h
  | ok c =>
    simp only [q, R.bind_ok] at h
    have big : ∀ {H1 : Hp} {os : List Addr}, Same (hide H1 (fun a => tO O0 own a ∨ a ∈ os)) (hide H1 (tO O0 own)) := fun {H1 os} => hide_same (Same.refl H1) fun _ _ _ z => .inl z
    have look : ∀ xs, c.items = some xs → (∀ J H1, Same H H1 → ItF (X.kw la) H1 (tO O0 own) J xs → P J H1) → wpAny (model X.prog X.w) X.A (eval l X.env) (fun v s1 => wpAny (model X.prog X.w) X.A (pyIter v) (PIE X pins σ tg P) X.xe s1) X.xe s := fun xs ex h => by
      cases c with
      | own ys =>
        cases ex
        refine (pi_list ha).run pins s σ H P I ⟨H0, O0, own, env, E, ?_⟩
        rw [q]
        intro v H1 os s1 fr nd r
        obtain ⟨a, vs, e1, eo, e2, e3⟩ := r
        have na : ¬ tO O0 own a := fun z => by
          obtain ⟨o, w⟩ := E.thereO a z
          have z2 := fr a (by rw [eo]; exact List.mem_cons_self)
          rw [w] at z2
          cases z2
        exact ⟨a, e1, ⟨vs, SqL.of e2⟩, h _ H1 s1 (itF_l (SqL.of (hide_eq.mpr ⟨na, e2⟩)) (DpAll_mono big _ _ e3))⟩
      | d y =>
        cases y with
        | list ys =>
          cases ex
          refine (pi_list ha).run pins s σ H P I ⟨H0, O0, own, env, E, ?_⟩
          rw [q]
          intro v H1 os s1 fr nd r
          obtain ⟨a, vs, e1, e2, e3⟩ := Dp_seq (Dp_mono big _ _ r.2)
          exact ⟨a, e1, ⟨vs, SqL_mono hide_sub e2⟩, h _ H1 s1 (itF_l e2 e3)⟩
        | tuple ys =>
          cases ex
          refine (pi_tup ha).run pins s σ H P I ⟨H0, O0, own, env, E, ?_⟩
          rw [q]
          intro v H1 os s1 fr nd r
          obtain ⟨a, vs, e1, e2, e3⟩ := Dp_tup (Dp_mono big _ _ r.2)
          exact ⟨a, e1, ⟨vs, SqT_mono hide_sub e2⟩, h _ H1 s1 (itF_t e2 e3)⟩
        | _ => cases ex
      | _ => cases ex
    unfold itemsR at h
    cases q2 : c.items with
    | none =>
      simp only [q2] at h
      exact h.elim
    | some xs =>
      simp only [q2] at h
      exact look xs q2 h⟩
theorem up_get {lo : Int} {n i : Nat} {x : D} (h : (upFrom lo n)[i]? = some x) : i < n ∧ x = .int (lo + (i : Nat)) := by
  unfold upFrom at h
  rw [List.getElem?_map, Option.map_eq_some_iff] at h
  obtain ⟨j, h1, h2⟩ := h
  obtain ⟨h3, h4⟩ := List.getElem?_eq_some_iff.mp h1
  rw [List.length_range] at h3
  rw [List.getElem_range] at h4
  subst h4
  exact ⟨h3, h2.symm⟩
theorem step_get {lo c : Int} {n i : Nat} {x : D} (h : (stepFrom lo c n)[i]? = some x) : i < n ∧ x = .int (lo + (i : Nat) * c) := by
  unfold stepFrom at h
  rw [List.getElem?_map, Option.map_eq_some_iff] at h
  obtain ⟨j, h1, h2⟩ := h
  obtain ⟨h3, h4⟩ := List.getElem?_eq_some_iff.mp h1
  rw [List.length_range] at h3
  rw [List.getElem_range] at h4
  subst h4
  exact ⟨h3, h2.symm⟩
theorem itF_r {K : KW} {H1 : Hp} {O : Addr → Prop} {lo : Int} {n : Nat} : ItF K H1 O (Itr lo n) (upFrom lo n) := fun i H2 O2 k => by
  refine ⟨fun x e => ?_, fun e => ?_⟩
  · obtain ⟨h1, h2⟩ := up_get e
    refine ⟨h1, fun v H' y => ⟨y.1, ?_⟩⟩
    rw [y.2, h2]
    exact .int _
  · have z : (upFrom lo n).length = n := by unfold upFrom; simp
    rw [z] at e
    exact e
theorem itF_c {K : KW} {H1 : Hp} {O : Addr → Prop} {lo c : Int} {n : Nat} : ItF K H1 O (Itc lo c n) (stepFrom lo c n) := fun i H2 O2 k => by
  refine ⟨fun x e => ?_, fun e => ?_⟩
  · obtain ⟨h1, h2⟩ := step_get e
    refine ⟨h1, fun v H' y => ⟨y.1, ?_⟩⟩
    rw [y.2, h2]
    exact .int _
  · have z : (stepFrom lo c n).length = n := by unfold stepFrom; simp
    rw [z] at e
    exact e
theorem Hand_int {mg : Str → Option Value} {W : WX} {K : KW} {H' : Hp} {O : Addr → Prop} {os : List Addr} {i : Int} {v : V} (r : CellR K H' O os (.d (.int i)) v) : v = .int i := Dp_int r.2
/-- range(a) -/
theorem df_rng1 (hm : X.mg "range" = none) (ha : PE X a (teD (X.kw la) X.mg W fa)) (hg : Gl X "range" := by rfl) (hs : starEach [a] X.env = [(false, eval a X.env)] := by rfl) : PI X tg (.Call (.Name "range" p) [a] [] pos) (wfD (X.kw la) X.mg W fun en => (fa en).bind rng1D) :=
  PI.imp (pi_range1 hg hm (pa_cons ha pa_nil hs) hs) fun σ H P ⟨H0, O0, own, env, E, h⟩ => by
  refine ⟨H0, O0, own, env, E, ?_⟩
  cases q : fa env with
  | no => simp only [q, R.bind_no] at h; exact h
  | ex k fs => simp only [q, R.bind_ex] at h; exact h
  | ok c =>
    simp only [q, R.bind_ok] at h
    intro v H1 os s1 fr nd r
    unfold rng1D at h
    split at h
    · rename_i j
      have e : v = .int j := Dp_int r.2
      subst e
      split at h
      · rename_i hb
        exact ⟨j, rfl, hb.1, hb.2, h _ H1 s1 itF_r⟩
      · exact h.elim
    · exact h.elim
/-- range(a, b) -/
theorem df_rng2 (hm : X.mg "range" = none) (ha : PE X a (teD (X.kw la) X.mg W fa)) (hb : PE X b (teD (X.kw la) X.mg W fb)) (hg : Gl X "range" := by rfl) (hs : starEach [a, b] X.env = [(false, eval a X.env), (false, eval b X.env)] := by rfl) (hs2 : starEach [b] X.env = [(false, eval b X.env)] := by rfl)
    (h1 : starEach (a :: [b]) X.env = (false, eval a X.env) :: starEach [b] X.env := by rfl) : PI X tg (.Call (.Name "range" p) [a, b] [] pos) (wfD (X.kw la) X.mg W fun en => (fa en).bind fun x => (fb en).bind fun y => rng2D x y) :=
  PI.imp (pi_range2 hg hm (pa_cons ha (pa_cons hb pa_nil hs2) h1) hs hs2) fun σ H P ⟨H0, O0, own, env, E, h⟩ => by
  refine ⟨H0, O0, own, env, E, ?_⟩
  cases q : fa env with
  | no => simp only [q, R.bind_no] at h; exact h
  | ex k fs => simp only [q, R.bind_ex] at h; exact h
  | ok c =>
    simp only [q, R.bind_ok] at h
    intro v H1 os s1 fr nd r
    refine ⟨H0, O0, own, env, E.mono s1, ?_⟩
    cases q2 : fb env with
    | no => simp only [q2, R.bind_no] at h; exact h
    | ex k fs => simp only [q2, R.bind_ex] at h; exact fun H' cls d s' w => h H' cls d (s1.trans s') w
    | ok c2 =>
      simp only [q2, R.bind_ok] at h
      intro v2 H2 os2 s2 fr2 nd2 r2
      unfold rng2D at h
      split at h
      · rename_i i j
        have e : v = .int i := Dp_int r.2
        have e2 : v2 = .int j := Dp_int r2.2
        subst e e2
        split at h
        · rename_i hb
          exact ⟨i, j, rfl, hb, h _ H2 (s1.trans s2) itF_r⟩
        · exact h.elim
      · exact h.elim
/-- range(a, b, -1) -/
theorem df_rng3 (hm : X.mg "range" = none) (ha : PE X a (teD (X.kw la) X.mg W fa)) (hb : PE X b (teD (X.kw la) X.mg W fb)) (hc : PE X c (teD (X.kw la) X.mg W fc)) (hg : Gl X "range" := by rfl)
    (h1 : starEach (a :: [b, c]) X.env = (false, eval a X.env) :: starEach [b, c] X.env := by rfl) (h2 : starEach (b :: [c]) X.env = (false, eval b X.env) :: starEach [c] X.env := by rfl) (h3 : starEach (c :: []) X.env = (false, eval c X.env) :: starEach [] X.env := by rfl) (hpl : (backTo pos (starEach [b, c] X.env)).any (·.1) = false := by rfl) :
    PI X tg (.Call (.Name "range" p) [a, b, c] [] pos) (wfD (X.kw la) X.mg W fun en => (fa en).bind fun x => (fb en).bind fun y => (fc en).bind fun z => rngDownD x y z) :=
  PI.imp (pi_range3 hg hm (pa_cons ha (pa_cons hb (pa_cons hc pa_nil h3) h2) h1) h1 hpl) fun σ H P ⟨H0, O0, own, env, E, h⟩ => by
  refine ⟨H0, O0, own, env, E, ?_⟩
  cases q : fa env with
  | no => simp only [q, R.bind_no] at h; exact h
  | ex k fs => simp only [q, R.bind_ex] at h; exact h
  | ok c =>
    simp only [q, R.bind_ok] at h
    intro v H1 os s1 fr nd r
    refine ⟨H0, O0, own, env, E.mono s1, ?_⟩
    cases q2 : fb env with
    | no => simp only [q2, R.bind_no] at h; exact h
    | ex k fs => simp only [q2, R.bind_ex] at h; exact fun H' cls d s' w => h H' cls d (s1.trans s') w
    | ok c2 =>
      simp only [q2, R.bind_ok] at h
      intro v2 H2 os2 s2 fr2 nd2 r2
      refine ⟨H0, O0, own, env, E.mono (s1.trans s2), ?_⟩
      cases q3 : fc env with
      | no => simp only [q3, R.bind_no] at h; exact h
      | ex k fs => simp only [q3, R.bind_ex] at h; exact fun H' cls d s' w => h H' cls d ((s1.trans s2).trans s') w
      | ok c3 =>
        simp only [q3, R.bind_ok] at h
        intro v3 H3 os3 s3 fr3 nd3 r3
        unfold rngDownD at h
        split at h
        · rename_i i j
          have e : v = .int i := Dp_int r.2
          have e2 : v2 = .int j := Dp_int r2.2
          have e3 : v3 = .int (-1) := Dp_int r3.2
          subst e e2 e3
          split at h
          · rename_i hb
            exact ⟨i, j, -1, _, rfl, RgC.neg hb.1 hb.2.1 hb.2.2.1 hb.2.2.2, h _ H3 ((s1.trans s2).trans s3) itF_c⟩
          · exact h.elim
        · exact h.elim
end
end DL
/-! ## DL, part 7: statements, loops, a def's body -/
namespace DL
open PySem PySem.Spec PyProof.Rows L2
theorem set_self {α : Type} : ∀ {l : List α} {i : Nat} {x : α}, l[i]? = some x → l.set i x = l
  | [], _, _, h => by simp at h
  | a :: l, 0, x, h => by
    simp at h
    rw [h]
    rfl
  | a :: l, i + 1, x, h => by
    show a :: l.set i x = a :: l
    rw [set_self (by simpa using h)]
/-! ### statements -/
def OutH (K : KW) (mg : Str → Option Value) (W : WX) (H0 : Hp) (O0 : Addr → Prop) (H : Hp) (O : Addr → Prop) (D : Ends) (o : Out) : Prop :=
  match o with
  | .no => False
  | .nx e => ∀ σ' H' own', EnvOk K H0 H' O0 own' σ' e → Same (hide H O) (hide H' (tO O0 own')) → D.nx σ' H'
  | .bk e => ∀ σ' H' own', EnvOk K H0 H' O0 own' σ' e → Same (hide H O) (hide H' (tO O0 own')) → D.bk σ' H'
  | .ct e => ∀ σ' H' own', EnvOk K H0 H' O0 own' σ' e → Same (hide H O) (hide H' (tO O0 own')) → D.ct σ' H'
  | .rt c => ∀ v H' os, Same H0 H' → (∀ a ∈ os, H0 a = none) → os.Nodup → CellR K H' (fun a => O0 a ∨ a ∈ os) os c v → D.rt v H'
  | .re c e => ∀ v σ' H' own' n os, σ'.length ≤ n → (∀ a ∈ os, a ∈ own' n) → os.Nodup → EnvOk K H0 H' O0 own' σ' e → CellR K H' (tO O0 own') os c v → D.rt v H'
  | .ex k fs e => ∀ σ' H' own' cls d, EnvOk K H0 H' O0 own' σ' e → Same (hide H O) (hide H' (tO O0 own')) → ExcR K mg (hide H' (tO O0 own')) cls d k fs → W cls d σ' H'
theorem OutH.mono {K : KW} {mg : Str → Option Value} {W : WX} {H0 : Hp} {O0 : Addr → Prop} {H H1 : Hp} {O O1 : Addr → Prop} {D : Ends} {o : Out} (s : Same (hide H O) (hide H1 O1)) (h : OutH K mg W H0 O0 H O D o) : OutH K mg W H0 O0 H1 O1 D o := by
  cases o with
  | no => exact h
  | nx e => exact fun σ' H' own' E q => h σ' H' own' E (s.trans q)
  | bk e => exact fun σ' H' own' E q => h σ' H' own' E (s.trans q)
  | ct e => exact fun σ' H' own' E q => h σ' H' own' E (s.trans q)
  | rt c => exact h
  | re c e => exact h
  | ex k fs e => exact fun σ' H' own' cls d E q => h σ' H' own' cls d E (s.trans q)
theorem same_h {H H1 : Hp} {O : Addr → Prop} (s : Same H H1) : Same (hide H O) (hide H1 O) := hide_same s fun _ _ _ z => z
def tsD (K : KW) (mg : Str → Option Value) (W : WX) (g : Env → Out) : TS := fun D σ H => ∃ H0 O0 own env, EnvOk K H0 H O0 own σ env ∧ OutH K mg W H0 O0 H (tO O0 own) D (g env)
section
variable {X : Cx} {la : Nat → Addr} {W : WX} {tg e l a b c : Expr} {fa fb fc : Env → R Cell} {fi : Env → R (List D)} {ta tb : Env → R Bool} {g g1 g2 : Env → Out} {pos p p' : Pos} {st : Stmt} {sts sts2 : List Stmt}
theorem ds_nil : PSs X [] (tsD (X.kw la) X.mg W fun en => .nx en) := PSs.imp pss_nil fun D σ H ⟨H0, O0, own, env, E, h⟩ => h σ H own E (Same.refl _)
/-- the way on behind a statement -/
theorem seq_ok {K : KW} {mg : Str → Option Value} : ∀ D σ H, tsD K mg W (fun en => (g1 en).andThen g2) D σ H → tSeq (tsD K mg W g1) (tsD K mg W g2) D σ H := fun D σ H ⟨H0, O0, own, env, E, h⟩ => by
  refine ⟨H0, O0, own, env, E, ?_⟩
  cases q : g1 env with
  | no => simp only [q, Out.andThen_no] at h; exact h
  | rt c => simp only [q, Out.andThen_rt] at h; exact h
  | re c e => simp only [q, Out.andThen_re] at h; exact h
  | bk e => simp only [q, Out.andThen_bk] at h; exact h
  | ct e => simp only [q, Out.andThen_ct] at h; exact h
  | ex k fs e => simp only [q, Out.andThen_ex] at h; exact h
  | nx e =>
    simp only [q, Out.andThen_nx] at h
    exact fun σ' H' own' E' s => ⟨H0, O0, own', e, E', OutH.mono s h⟩
theorem ds_cons (h1 : PS X st (tsD (X.kw la) X.mg W g1)) (h2 : PSs X sts (tsD (X.kw la) X.mg W g2)) : PSs X (st :: sts) (tsD (X.kw la) X.mg W fun en => (g1 en).andThen g2) := PSs.imp (pss_cons h1 h2) seq_ok
theorem ds_one (h1 : PS X st (tsD (X.kw la) X.mg W g1)) : PSs X [st] (tsD (X.kw la) X.mg W g1) := pss_one h1
theorem ds_pass : PS X (.Pass pos) (tsD (X.kw la) X.mg W fun en => .nx en) := PS.imp ps_pass fun D σ H ⟨H0, O0, own, env, E, h⟩ => h σ H own E (Same.refl _)
theorem ds_break : PS X (.Break pos) (tsD (X.kw la) X.mg W fun en => .bk en) := PS.imp ps_break fun D σ H ⟨H0, O0, own, env, E, h⟩ => h σ H own E (Same.refl _)
theorem ds_continue : PS X (.Continue pos) (tsD (X.kw la) X.mg W fun en => .ct en) := PS.imp ps_continue fun D σ H ⟨H0, O0, own, env, E, h⟩ => h σ H own E (Same.refl _)
/-- an exception of an expression is the statement's -/
theorem into_ex {K : KW} {mg : Str → Option Value} {H0 H : Hp} {O0 : Addr → Prop} {own : Nat → List Addr} {σ : L2.St} {env : Env} {D : Ends} {k : Str} {fs : List (Str × PyData)} (E : EnvOk K H0 H O0 own σ env) (h : OutH K mg W H0 O0 H (tO O0 own) D (.ex k fs env)) :
    ∀ H' cls d, Same H H' → ExcR K mg (hide H' (tO O0 own)) cls d k fs → W cls d σ H' := fun H' cls d s w => h σ H' own cls d (E.mono s) (same_h s) w
theorem ds_expr (ha : PE X a (teD (X.kw la) X.mg W fa)) (hs : swapsWith a none pos.line X.env = pure false := by rfl) : PS X (.Expr a pos) (tsD (X.kw la) X.mg W fun en => (fa en).into en fun _ => .nx en) := PS.imp (ps_expr ha hs) fun D σ H ⟨H0, O0, own, env, E, h⟩ => by
  refine ⟨H0, O0, own, env, E, ?_⟩
  cases q : fa env with
  | no => simp only [q, R.into_no] at h; exact h
  | ex k fs => simp only [q, R.into_ex] at h; exact into_ex E h
  | ok c =>
    simp only [q, R.into_ok] at h
    exact fun v H' os s _ _ r => h σ H' own (E.mono s) (same_h s)
theorem ds_ret (ha : PE X a (teD (X.kw la) X.mg W fa)) : PS X (.Return (some a) pos) (tsD (X.kw la) X.mg W fun en => (fa en).into en .rt) := PS.imp (ps_ret ha) fun D σ H ⟨H0, O0, own, env, E, h⟩ => by
  refine ⟨H0, O0, own, env, E, ?_⟩
  cases q : fa env with
  | no => simp only [q, R.into_no] at h; exact h
  | ex k fs => simp only [q, R.into_ex] at h; exact into_ex E h
  | ok c =>
    simp only [q, R.into_ok] at h
    intro v H' os s fr nd r
    refine h v H' os (E.same.trans s) (fun a ha => E.same.free (fr a ha)) nd (CellR_mono (Same.refl H') (fun a o _ z => ?_) r)
    rcases z with z | z
    · exact .inl (.inl z)
    · exact .inr z
/-- return x, x in slot i: what it owns is handed out -/
def outC (c : Cell) : Out := match c with
  | .un => .no
  | c => .rt c
theorem ds_retV (i : Nat) {x : Str} (hN : X.N[i]? = some x := by rfl) (hv : Vis X.env.scope x := by first | exact Or.inl rfl | exact Or.inr (Or.inl rfl) | exact Or.inr (Or.inr rfl)) (hd : (x == ("__debug__" : Str)) = false := by decide)
    (hcd : (x == ("__classdict__" : Str)) = false := by decide) : PS X (.Return (some (.Name x p)) pos) (tsD (X.kw la) X.mg W fun en => (getC i en).into en .rt) := PS.imp (ps_ret (pe_var hN hv hd hcd)) fun D σ H ⟨H0, O0, own, env, E, h⟩ => by
  unfold getC at h
  cases q : env[i]? with
  | none => simp only [q, R.into_no] at h; exact h.elim
  | some c =>
    obtain ⟨c', n, k, h'⟩ : ∃ c', c ≠ .un ∧ (∀ v, CellR (X.kw la) H (tO O0 own) (own i) c v → CellR (X.kw la) H (tO O0 own) (own i) c' v) ∧ OutH (X.kw la) X.mg W H0 O0 H (tO O0 own) D (.rt c') := by
      cases c with
      | un => simp only [q, R.into_no] at h; exact h.elim
      | exc _ _ _ _ => simp only [q, R.into_no] at h; exact h.elim
      | fn _ => simp only [q, R.into_no] at h; exact h.elim
      | par a c => simp only [q, R.into_ok] at h; exact ⟨c, (by intro z; cases z), fun v r => (CellR_par r).2, h⟩
      | _ => simp only [q, R.into_ok] at h; exact ⟨_, (by intro z; cases z), fun _ e => e, h⟩
    obtain ⟨v, e1, e2⟩ := E.get q n
    refine ⟨v, e1, h' v H (own i) E.same (fun a ha => E.fresh i a ha) (E.nd i) (CellR_mono (Same.refl H) (fun a o _ z => ?_) (k v e2))⟩
    rcases z with z | z
    · exact .inl z
    · exact .inr ⟨i, z⟩
theorem ds_retN : PS X (.Return none pos) (tsD (X.kw la) X.mg W fun en => .rt (.d .none)) := PS.imp ps_retN fun D σ H ⟨H0, O0, own, env, E, h⟩ => h .non H [] E.same (fun a ha => by cases ha) List.nodup_nil ⟨rfl, .non⟩
theorem ds_if (hc : PT X c (ttD (X.kw la) X.mg W ta)) (h1 : PSs X sts (tsD (X.kw la) X.mg W g1)) (h2 : PSs X sts2 (tsD (X.kw la) X.mg W g2)) : PS X (.If c sts sts2 pos) (tsD (X.kw la) X.mg W fun en => (ta en).into en fun b => if b = true then g1 en else g2 en) := PS.imp (ps_if hc h1 h2) fun D σ H ⟨H0, O0, own, env, E, h⟩ => by
  refine ⟨H0, O0, own, env, E, ?_⟩
  cases q : ta env with
  | no => simp only [q, R.into_no] at h; exact h
  | ex k fs => simp only [q, R.into_ex] at h; exact into_ex E h
  | ok b =>
    simp only [q, R.into_ok] at h
    intro H' s
    cases b with
    | true =>
      rw [if_pos rfl] at h ⊢
      exact ⟨H0, O0, own, env, E.mono s, OutH.mono (same_h s) h⟩
    | false =>
      rw [if_neg Bool.false_ne_true] at h ⊢
      exact ⟨H0, O0, own, env, E.mono s, OutH.mono (same_h s) h⟩
/-- the slot's own list is from now on data -/
theorem freeze_ok {K : KW} {H0 H : Hp} {O0 : Addr → Prop} {own : Nat → List Addr} {σ : L2.St} {env : Env} (E : EnvOk K H0 H O0 own σ env) (i : Nat) : ∃ own', EnvOk K H0 H O0 own' σ (freeze i env) ∧ Same (hide H (tO O0 own)) (hide H (tO O0 own')) := by
  unfold freeze
  cases q : env[i]? with
  | none => exact ⟨own, E, Same.refl _⟩
  | some c =>
    dsimp only
    have hi : i < env.length := (List.getElem?_eq_some_iff.mp q).1
    by_cases n : freezeC c = c
    · have e : env.set i (freezeC c) = env := by
        rw [n]
        exact set_self q
      rw [e]
      exact ⟨own, E, Same.refl _⟩
    · have n1 : c ≠ .un := fun z => n (by rw [z]; rfl)
      obtain ⟨v, e1, e2⟩ := E.get q n1
      have sub : ∀ a, tO O0 (ownSet own i []) a → tO O0 own a := fun a z => by
        rcases z with z | ⟨j, z⟩
        · exact .inl z
        · unfold ownSet at z
          by_cases hj : j = i
          · rw [if_pos hj] at z
            cases z
          · rw [if_neg hj] at z
            exact .inr ⟨j, z⟩
      have nown : ∀ a ∈ own i, ¬ tO O0 (ownSet own i []) a := fun a ha z => by
        rcases z with z | ⟨j, z⟩
        · obtain ⟨o, w⟩ := E.o0 a z
          rw [E.fresh i a ha] at w
          cases w
        · unfold ownSet at z
          by_cases hj : j = i
          · rw [if_pos hj] at z
            cases z
          · rw [if_neg hj] at z
            exact E.dj i j a (Ne.symm hj) ha z
      have sm : Same (hide H (tO O0 own)) (hide H (tO O0 (ownSet own i []))) := hide_same (Same.refl H) fun a o _ z => sub a z
      obtain ⟨x, hx, hd⟩ : ∃ x, freezeC c = .d x ∧ Dp K (hide H (tO O0 (ownSet own i []))) v x := by
        have r2 : CellR K H (fun a => tO O0 (ownSet own i []) a ∨ a ∈ own i) (own i) c v := CellR_mono (Same.refl H) (fun a o _ z => by
          rcases z with z | z
          · exact sub a z
          · exact .inr ⟨i, z⟩) e2
        cases c with
        | own xs => exact ⟨_, rfl, CellR_dat nown r2 rfl⟩
        | own2 xss => exact ⟨_, rfl, CellR_dat nown r2 rfl⟩
        | _ => exact absurd rfl n
      refine ⟨ownSet own i [], ?_, sm⟩
      rw [hx]
      have w := E.set (c := .d x) (x := some v) (os := []) hi E.same (fun _ _ e _ => e) (fun _ _ _ _ _ e => e) (fun a ha => by cases ha) (fun a ha => by cases ha) (fun a ha => by cases ha) List.nodup_nil (.inr ⟨v, rfl, rfl, hd⟩)
      have e3 : σ.set i (some v) = σ := set_self e1
      rw [e3] at w
      exact w
def freezeAll : List Nat → Env → Env
  | [], e => e
  | i :: is, e => freezeAll is (freeze i e)
theorem freezeAll_ok {K : KW} {H0 H : Hp} {O0 : Addr → Prop} {σ : L2.St} : ∀ (is : List Nat) {own : Nat → List Addr} {env : Env}, EnvOk K H0 H O0 own σ env → ∃ own', EnvOk K H0 H O0 own' σ (freezeAll is env) ∧ Same (hide H (tO O0 own)) (hide H (tO O0 own'))
  | [], own, env, E => ⟨own, E, Same.refl _⟩
  | i :: is, own, env, E => by
    obtain ⟨own1, E1, s1⟩ := freeze_ok E i
    obtain ⟨own2, E2, s2⟩ := freezeAll_ok is E1
    exact ⟨own2, E2, s1.trans s2⟩
/-- ahead of a statement the slots is are frozen -/
theorem ds_frz (is : List Nat) (h : PS X st (tsD (X.kw la) X.mg W g)) : PS X st (tsD (X.kw la) X.mg W fun en => g (freezeAll is en)) := PS.imp h fun D σ H ⟨H0, O0, own, env, E, h⟩ => by
  obtain ⟨own', E', s⟩ := freezeAll_ok is E
  exact ⟨H0, O0, own', _, E', OutH.mono s h⟩
/-- x = e, x in slot i -/
theorem store_new {K : KW} {H0 H H' : Hp} {O0 : Addr → Prop} {own : Nat → List Addr} {σ : L2.St} {env : Env} {i : Nat} {os : List Addr} {c : Cell} {v : V} (E : EnvOk K H0 H O0 own σ env) (hi : i < env.length) (s : Same H H') (fr : ∀ a ∈ os, H a = none) (nd : os.Nodup) (r : CellR K H' (fun a => tO O0 own a ∨ a ∈ os) os c v) :
    EnvOk K H0 H' O0 (ownSet own i os) (σ.set i (some v)) (env.set i c) ∧ Same (hide H (tO O0 own)) (hide H' (tO O0 (ownSet own i os))) := by
  have r' : CellR K H' (tO O0 (ownSet own i os)) os c v := CellR_mono (Same.refl H') (fun a o _ z => by
    rcases z with z | ⟨j, z⟩
    · exact .inl (.inl z)
    · unfold ownSet at z
      by_cases hj : j = i
      · rw [if_pos hj] at z
        exact .inr z
      · rw [if_neg hj] at z
        exact .inl (.inr ⟨j, z⟩)) r
  refine ⟨E.set (c := c) (x := some v) hi (E.same.trans s) (fun a o e _ => s a o e) (fun _ a o _ _ e => s a o e) (fun a ha => CellR_there r a ha) (fun a ha => E.same.free (fr a ha)) (fun a ha => .inl (fr a ha)) nd ?_, hide_set (fun a o e _ => s a o e) fun a ha => .inl (fr a ha)⟩
  exact .inr ⟨v, rfl, r'⟩
def setR (i : Nat) (en : Env) (c : Cell) : Out := if i < en.length then .nx (en.set i c) else .no
theorem ds_set {i : Nat} {x : Str} (hN : X.N.Nodup) (ha : PE X a (teD (X.kw la) X.mg W fa)) (hi : X.N[i]? = some x := by rfl) (hx : Loc X.env.scope x := by first | exact Or.inl rfl | exact Or.inr rfl) (hs : swapsWith a (some (.Name x p')) pos.line X.env = pure false := by rfl) (hf : X.fn x = true ∨ X.env.scope.names.lookup x = some .local := by first | exact .inl rfl | exact .inr rfl) :
    PS X (.Assign [.Name x p'] a pos) (tsD (X.kw la) X.mg W fun en => (fa en).into en (setR i en)) := PS.imp (ps_set hN hi hx ha hs hf) fun D σ H ⟨H0, O0, own, env, E, h⟩ => by
  refine ⟨H0, O0, own, env, E, ?_⟩
  cases q : fa env with
  | no => simp only [q, R.into_no] at h; exact h
  | ex k fs => simp only [q, R.into_ex] at h; exact into_ex E h
  | ok c =>
    simp only [q, R.into_ok] at h
    unfold setR at h
    intro v H' os s fr nd r
    split at h
    · rename_i hl
      obtain ⟨E', s'⟩ := store_new E hl s fr nd r
      exact h _ H' _ E' s'
    · exact h.elim
/-- a, b = e -/
def unpR (is : List Nat) (en : Env) (c : Cell) : Out := match c with
  | .d x => match (Tg.tp is).put x en with
    | some e' => .nx e'
    | none => .no
  | _ => .no
theorem ds_unp {is : List Nat} {es : List Expr} {k : Nat} {tp : Pos} (hg : PG X (.Tuple es k tp) ((Tg.tp is).tg X.K)) (ha : PE X a (teD (X.kw la) X.mg W fa)) (hs : swapsWithSole [.Tuple es k tp] a pos.line X.env = pure false := by rfl) (hw : swappedStores [.Tuple es k tp] a X.env = pure none := by rfl)
    (h1 : (assignEach [.Tuple es k tp] X.env).map (·.2) = [assign (.Tuple es k tp) X.env] := by rfl) : PS X (.Assign [.Tuple es k tp] a pos) (tsD (X.kw la) X.mg W fun en => (fa en).into en (unpR is en)) := PS.imp (ps_asg ha hg hs hw h1) fun D σ H ⟨H0, O0, own, env, E, h⟩ => by
  refine ⟨H0, O0, own, env, E, ?_⟩
  cases q : fa env with
  | no => simp only [q, R.into_no] at h; exact h
  | ex k fs => simp only [q, R.into_ex] at h; exact into_ex E h
  | ok c =>
    simp only [q, R.into_ok] at h
    unfold unpR at h
    intro v H' os s fr nd r
    split at h
    · rename_i x
      split at h
      · rename_i e' he
        have hd : Dp X.K (hide H' (tO O0 own)) v x := Dp_mono (hide_same (Same.refl H') fun _ _ _ z => .inl z) _ _ r.2
        exact tg_ok (Tg.tp is) (E.mono s) hd he fun σ' own' E' sub _ _ => h σ' H' own' E' ((same_h s).trans (hide_same (Same.refl H') fun a o _ z => sub a z))
      · exact h.elim
    · exact h.elim
/-! ### own lists are changed -/
/-- xs.append(e), xs in slot i -/
def ownAt (i : Nat) (en : Env) (f : List PyData → Out) : Out := match en[i]? with
  | some (.own xs) => f xs
  | _ => .no
def own2At (i : Nat) (en : Env) (f : List (List PyData) → Out) : Out := match en[i]? with
  | some (.own2 xs) => f xs
  | _ => .no
theorem own_upd {K : KW} {H0 H : Hp} {O0 : Addr → Prop} {own : Nat → List Addr} {σ : L2.St} {env : Env} {i : Nat} {xs ys : List PyData} {al : Addr} {vs us : List V} (E : EnvOk K H0 H O0 own σ env) (q : env[i]? = some (.own xs)) (e1 : σ[i]? = some (some (.ref al))) (eo : own i = [al]) (e2 : H al = some (.lst vs))
    (r : DpAll K (hide H (tO O0 own)) us ys) : EnvOk K H0 (upd H al (.lst us)) O0 own σ (env.set i (.own ys)) ∧ Same (hide H (tO O0 own)) (hide (upd H al (.lst us)) (tO O0 own)) := by
  have hi : i < env.length := (List.getElem?_eq_some_iff.mp q).1
  have mem : al ∈ own i := by rw [eo]; exact List.mem_cons_self
  have s0 : ∀ a o, a ≠ al → H a = some o → upd H al (.lst us) a = some o := fun a o n e => by rw [upd_ne n]; exact e
  have h0 : Same H0 (upd H al (.lst us)) := fun a o e => s0 a o (fun z => by
    rw [z, E.fresh i al mem] at e
    cases e) (E.same a o e)
  have n1 : ∀ a o, H a = some o → ¬ tO O0 own a → upd H al (.lst us) a = some o := fun a o e n => s0 a o (fun z => n (by rw [z]; exact .inr ⟨i, mem⟩)) e
  have eqo : ownSet own i (own i) = own := by
    funext j
    unfold ownSet
    by_cases hj : j = i
    · rw [if_pos hj, hj]
    · rw [if_neg hj]
  have sm : Same (hide H (tO O0 own)) (hide (upd H al (.lst us)) (tO O0 own)) := fun a o e => by
    obtain ⟨n, e⟩ := hide_eq.mp e
    exact hide_eq.mpr ⟨n, n1 a o e n⟩
  have w := E.set (c := .own ys) (x := some (.ref al)) (os := own i) (H' := upd H al (.lst us)) hi h0 n1 (fun j a o hj ha e => s0 a o (fun z => E.dj i j al (Ne.symm hj) mem (by rw [← z]; exact ha)) e) (fun a ha => by
      rw [eo] at ha
      rw [List.mem_singleton.mp ha]
      exact ⟨_, upd_same⟩) (fun a ha => E.fresh i a ha) (fun a ha => .inr ha) (E.nd i) (.inr ⟨.ref al, rfl, al, us, rfl, eo, upd_same, by
        rw [eqo]
        exact DpAll_mono sm _ _ r⟩)
  rw [eqo] at w
  have e3 : σ.set i (some (.ref al)) = σ := set_self e1
  rw [e3] at w
  exact ⟨w, sm⟩
/-- behind the reading of data: the slot's own list -/
theorem own_at {K : KW} {H0 H : Hp} {O0 : Addr → Prop} {own : Nat → List Addr} {σ : L2.St} {env : Env} {i : Nat} {xs : List PyData} (E : EnvOk K H0 H O0 own σ env) (q : env[i]? = some (.own xs)) : ∃ al vs, σ[i]? = some (some (.ref al)) ∧ own i = [al] ∧ H al = some (.lst vs) ∧ DpAll K (hide H (tO O0 own)) vs xs := by
  obtain ⟨v, e1, al, vs, rfl, eo, e2, e3⟩ := E.get q (fun z => by cases z)
  exact ⟨al, vs, e1, eo, e2, e3⟩
theorem ownAt_some {K : KW} {mg : Str → Option Value} {H0 H : Hp} {O0 O : Addr → Prop} {i : Nat} {en : Env} {f : List PyData → Out} {D : Ends} (h : OutH K mg W H0 O0 H O D (ownAt i en f)) : ∃ xs, en[i]? = some (.own xs) ∧ OutH K mg W H0 O0 H O D (f xs) := by
  unfold ownAt at h
  split at h
  · rename_i xs e
    exact ⟨xs, e, h⟩
  · exact h.elim
theorem own2At_some {K : KW} {mg : Str → Option Value} {H0 H : Hp} {O0 O : Addr → Prop} {i : Nat} {en : Env} {f : List (List PyData) → Out} {D : Ends} (h : OutH K mg W H0 O0 H O D (own2At i en f)) : ∃ xs, en[i]? = some (.own2 xs) ∧ OutH K mg W H0 O0 H O D (f xs) := by
  unfold own2At at h
  split at h
  · rename_i xs e
    exact ⟨xs, e, h⟩
  · exact h.elim
/-- data in what nobody owns, behind an expression -/
theorem dat_at {K : KW} {H0 H H' : Hp} {O0 : Addr → Prop} {own : Nat → List Addr} {σ : L2.St} {env : Env} {os : List Addr} {c : Cell} {v : V} {d : PyData} (E : EnvOk K H0 H O0 own σ env) (fr : ∀ a ∈ os, H a = none) (r : CellR K H' (fun a => tO O0 own a ∨ a ∈ os) os c v) (e : asD c = .ok d) : Dp K (hide H' (tO O0 own)) v d :=
  CellR_dat (fun a ha z => by
    obtain ⟨o, e⟩ := E.thereO a z
    rw [fr a ha] at e
    cases e) r e
/-- xs.append(e), xs in slot i -/
theorem ds_app (i : Nat) {x : Str} {np ap : Pos} (pe : PE X (.Call (.Attribute (.Name x np) "append" ap) [a] [] pos) (tBM X.K "list" rAppend (tVar i) (tCons (teD (X.kw la) X.mg W fa) tNil)))
    (hs : swapsWith (.Call (.Attribute (.Name x np) "append" ap) [a] [] pos) none p.line X.env = pure false := by rfl) :
    PS X (.Expr (.Call (.Attribute (.Name x np) "append" ap) [a] [] pos) p) (tsD (X.kw la) X.mg W fun en => ownAt i en fun xs => ((fa en).bind asD).into en fun d => if xs.length < 16777216 then .nx (en.set i (.own (xs ++ [d]))) else .no) := PS.imp (ps_expr pe hs) fun D σ H ⟨H0, O0, own, env, E, h⟩ => by
  obtain ⟨xs, q, h⟩ := ownAt_some h
  obtain ⟨al, vs, e1, eo, e2, e3⟩ := own_at E q
  refine ⟨.ref al, e1, .inl ⟨rfl, vs, SqL.of e2⟩, H0, O0, own, env, E, ?_⟩
  cases q2 : fa env with
  | no => simp only [q2, R.bind_no, R.into_no] at h; exact h
  | ex k fs => simp only [q2, R.bind_ex, R.into_ex] at h; exact into_ex E h
  | ok c =>
    simp only [q2, R.bind_ok] at h
    intro v H' os s fr nd r
    cases q3 : asD c with
    | no => simp only [q3, R.into_no] at h; exact h.elim
    | ex k fs => exact (asD_ex q3).elim
    | ok d =>
      simp only [q3, R.into_ok] at h
      split at h
      · rename_i hl
        have hd := dat_at E fr r q3
        obtain ⟨E', s'⟩ := own_upd (E.mono s) q e1 eo (s _ _ e2) (DpAll_append (DpAll_mono (same_h s) _ _ e3) (.cons hd .nil))
        exact ⟨al, vs, v, rfl, rfl, s _ _ e2, by rw [DpAll_len e3, sizeLine_eq]; exact hl, h _ _ own E' ((same_h s).trans s')⟩
      · exact h.elim
/-- xs[k] = e, xs in slot i -/
theorem ixN_of {n : Nat} {i : Int} {j : Nat} (h : ixN n i = some j) : j < n := (ixN_seq h).2.1
def setAt {α : Type} (xs : List α) (i : Int) (x : α) : Option (List α) := (ixN xs.length i).map fun j => xs.set j x
def cellI (c : Cell) : R Int := match c with
  | .d (.int i) => .ok i
  | _ => .no
theorem cellI_ok {K : KW} {H : Hp} {O : Addr → Prop} {os : List Addr} {c : Cell} {v : V} {i : Int} (h : cellI c = .ok i) (r : CellR K H O os c v) : v = .int i := by
  unfold cellI at h
  split at h
  · cases h
    exact Dp_int r.2
  · cases h
theorem cellI_ex {c : Cell} {k : Str} {fs : List (Str × PyData)} (h : cellI c = .ex k fs) : False := by
  unfold cellI at h
  split at h <;> cases h
theorem ds_setI (i : Nat) {sp : Pos} {o : Expr} (pg : PG X (.Subscript o b sp) (gSub (tVar i) (teD (X.kw la) X.mg W fb) rSetL)) (ha : PE X a (teD (X.kw la) X.mg W fa)) (hs : swapsWithSole [.Subscript o b sp] a pos.line X.env = pure false := by rfl) (hw : swappedStores [.Subscript o b sp] a X.env = pure none := by rfl)
    (h1 : (assignEach [.Subscript o b sp] X.env).map (·.2) = [assign (.Subscript o b sp) X.env] := by rfl) :
    PS X (.Assign [.Subscript o b sp] a pos) (tsD (X.kw la) X.mg W fun en => ((fa en).bind asD).into en fun d => ownAt i en fun xs => ((fb en).bind cellI).into en fun k => match setAt xs k d with | some ys => .nx (en.set i (.own ys)) | none => .no) :=
  PS.imp (ps_asg ha pg hs hw h1) fun D σ H ⟨H0, O0, own, env, E, h⟩ => by
  refine ⟨H0, O0, own, env, E, ?_⟩
  cases q : fa env with
  | no => simp only [q, R.bind_no, R.into_no] at h; exact h
  | ex k fs => simp only [q, R.bind_ex, R.into_ex] at h; exact into_ex E h
  | ok c =>
    simp only [q, R.bind_ok] at h
    intro v H' os s fr nd r
    cases q3 : asD c with
    | no => simp only [q3, R.into_no] at h; exact h.elim
    | ex k fs => exact (asD_ex q3).elim
    | ok d =>
      simp only [q3, R.into_ok] at h
      have hd := dat_at E fr r q3
      obtain ⟨xs, q4, h⟩ := ownAt_some h
      obtain ⟨al, vs, e1, eo, e2, e3⟩ := own_at E q4
      refine ⟨.ref al, e1, H0, O0, own, env, E.mono s, ?_⟩
      cases q2 : fb env with
      | no => simp only [q2, R.bind_no, R.into_no] at h; exact h
      | ex k fs => simp only [q2, R.bind_ex, R.into_ex] at h; exact into_ex (E.mono s) (OutH.mono (same_h s) h)
      | ok c2 =>
        simp only [q2, R.bind_ok] at h
        intro u H2 os2 s2 fr2 nd2 r2
        cases q5 : cellI c2 with
        | no => simp only [q5, R.into_no] at h; exact h.elim
        | ex k fs => exact (cellI_ex q5).elim
        | ok k =>
          simp only [q5, R.into_ok] at h
          have eu := cellI_ok q5 r2
          subst eu
          unfold setAt at h
          cases q6 : ixN xs.length k with
          | none =>
            rw [q6] at h
            exact h.elim
          | some j =>
            rw [q6] at h
            have h : OutH (X.kw la) X.mg W H0 O0 H (tO O0 own) D (.nx (env.set i (.own (xs.set j d)))) := h
            have ss := s.trans s2
            obtain ⟨E', s'⟩ := own_upd (E.mono ss) q4 e1 eo (ss _ _ e2) (DpAll_set (Dp_mono (same_h s2) _ _ hd) j (DpAll_mono (same_h ss) _ _ e3))
            exact ⟨al, vs, k, j, rfl, rfl, ss _ _ e2, by rw [DpAll_len e3]; exact q6, h _ _ own E' ((same_h ss).trans s')⟩
/-- x += e -/
theorem ds_aug (i : Nat) {x : Str} {op : Operator} {f : Int → Int → Int} (hN : X.N.Nodup) (ha : PE X a (teD (X.kw la) X.mg W fa)) (ho : PIp X op (ipI f)) (hi : X.N[i]? = some x := by rfl) (hx : Loc X.env.scope x := by first | exact Or.inl rfl | exact Or.inr rfl) (hf : X.fn x = true ∨ X.env.scope.names.lookup x = some .local := by first | exact .inl rfl | exact .inr rfl) :
    PS X (.AugAssign (.Name x p') op a pos) (tsD (X.kw la) X.mg W fun en => ((getC i en).bind cellI).into en fun k => ((fa en).bind cellI).into en fun z => .nx (en.set i (.d (.int (f k z))))) := PS.imp (ps_aug hN hi hx ha ho hf) fun D σ H ⟨H0, O0, own, env, E, h⟩ => by
  have hx : ∃ k, env[i]? = some (.d (.int k)) ∧ OutH (X.kw la) X.mg W H0 O0 H (tO O0 own) D (((fa env).bind cellI).into env fun z => .nx (env.set i (.d (.int (f k z))))) := by
    unfold getC at h
    cases q : env[i]? with
    | none => simp only [q, R.bind_no, R.into_no] at h; exact h.elim
    | some c =>
      cases c with
      | un => simp only [q, R.bind_no, R.into_no] at h; exact h.elim
      | exc _ _ _ _ => simp only [q, R.bind_no, R.into_no] at h; exact h.elim
      | fn _ => simp only [q, R.bind_no, R.into_no] at h; exact h.elim
      | d y =>
        cases y with
        | int k =>
          simp only [q, R.bind_ok, cellI, R.into_ok] at h
          exact ⟨k, rfl, h⟩
        | _ => simp only [q, R.bind_ok, cellI, R.into_no] at h; exact h.elim
      | par j c2 =>
        simp only [q, R.bind_ok] at h
        cases c2 with
        | d y =>
          obtain ⟨v, _, r⟩ := E.get q (fun z => by cases z)
          obtain ⟨r1, r2⟩ := CellR_par r
          rw [r1] at r2
          cases y with
          | int k => exact nomatch Dp_int r2.2
          | _ => simp only [cellI, R.into_no] at h; exact h.elim
        | _ => simp only [cellI, R.into_no] at h; exact h.elim
      | _ => simp only [q, R.bind_ok, cellI, R.into_no] at h; exact h.elim
  obtain ⟨k, q, h⟩ := hx
  obtain ⟨v, e1, e2⟩ := E.get q (fun z => by cases z)
  have ev : v = .int k := Dp_int e2.2
  subst ev
  refine ⟨.int k, e1, H0, O0, own, env, E, ?_⟩
  cases q2 : fa env with
  | no => simp only [q2, R.bind_no, R.into_no] at h; exact h
  | ex k fs => simp only [q2, R.bind_ex, R.into_ex] at h; exact into_ex E h
  | ok c =>
    simp only [q2, R.bind_ok] at h
    intro u H' os s fr nd r
    cases q3 : cellI c with
    | no => simp only [q3, R.into_no] at h; exact h.elim
    | ex k fs => exact (cellI_ex q3).elim
    | ok z =>
      simp only [q3, R.into_ok] at h
      have eu := cellI_ok q3 r
      subst eu
      obtain ⟨own', E', sub, _⟩ := (E.mono s).put i (x := .int (f k z)) (v := .int (f k z)) (.int _)
      exact ⟨k, z, rfl, rfl, h _ H' own' E' ((same_h s).trans (hide_same (Same.refl H') fun a o _ w => sub a w))⟩
/-! ### loops -/
theorem ds_for {T : Tg} (hp : PassesOwn (model X.prog X.w) X.A X.env X.xe) (hc : X.calm = true) (hi : PI X tg l (wfD (X.kw la) X.mg W fi)) (hg : PG X tg (T.tg X.K)) (hb : PSs X sts (tsD (X.kw la) X.mg W g)) (hs : ∀ x, foldedSetIterable l X.env x = pure x := by intro _; rfl) :
    PS X (.For tg l sts [] pos) (tsD (X.kw la) X.mg W fun en => (fi en).into en fun xs => forD (turnD T g) xs en) := PS.imp (ps_for hp hc hi hg hb hs) fun D σ H ⟨H0, O0, own, env, E, h⟩ => by
  refine ⟨H0, O0, own, env, E, ?_⟩
  cases q : fi env with
  | no => simp only [q, R.into_no] at h; exact h
  | ex k fs => simp only [q, R.into_ex] at h; exact into_ex E h
  | ok xs =>
    simp only [q, R.into_ok] at h
    intro J H1 s it
    refine ⟨fun i m σ2 H2 => m = xs.length - i ∧ i ≤ xs.length ∧ ∃ own2 env2, EnvOk (X.kw la) H0 H2 O0 own2 σ2 env2 ∧ Same (hide H1 (tO O0 own)) (hide H2 (tO O0 own2)) ∧ OutH (X.kw la) X.mg W H0 O0 H2 (tO O0 own2) D (forD (turnD T g) (xs.drop i) env2),
      ⟨xs.length, by simp, Nat.zero_le _, own, env, E.mono s, Same.refl _, OutH.mono (same_h s) h⟩, ?_⟩
    rintro i m σ2 H2 ⟨rfl, hi, own2, env2, E2, s2, h2⟩
    obtain ⟨i1, i2⟩ := it i H2 _ s2
    by_cases hlt : i < xs.length
    · obtain ⟨x, hx⟩ : ∃ x, xs[i]? = some x := ⟨_, List.getElem?_eq_getElem hlt⟩
      obtain ⟨j1, j2⟩ := i1 x hx
      have ed : xs.drop i = x :: xs.drop (i + 1) := by
        rw [List.drop_eq_getElem_cons hlt]
        rw [List.getElem?_eq_getElem hlt] at hx
        rw [Option.some.inj hx]
      rw [ed] at h2
      have h3 : OutH (X.kw la) X.mg W H0 O0 H2 (tO O0 own2) D (match turnD T g x env2 with
        | .nx e' => forD (turnD T g) (xs.drop (i + 1)) e'
        | .ct e' => forD (turnD T g) (xs.drop (i + 1)) e'
        | .bk e' => .nx e'
        | o => o) := h2
      refine .inr ⟨j1, fun σ' H' => ∃ own', ∃ env', EnvOk (X.kw la) H0 H' O0 own' σ' env' ∧ Same (hide H1 (tO O0 own)) (hide H' (tO O0 own')) ∧ OutH (X.kw la) X.mg W H0 O0 H' (tO O0 own') D (forD (turnD T g) (xs.drop (i + 1)) env'), fun σ' H' hN => ⟨xs.length - (i + 1), by omega, rfl, hlt, hN⟩, fun v H' y => ?_⟩
      obtain ⟨rfl, hv⟩ := j2 v H' y
      have hv2 : Dp X.K (hide H' (tO O0 own2)) v x := Dp_mono s2 _ _ hv
      unfold turnD at h3
      cases q5 : T.put x env2 with
      | none =>
        simp only [q5] at h3
        exact h3.elim
      | some e' =>
        simp only [q5] at h3
        refine tg_ok T E2 hv2 q5 fun σ3 own3 E3 sub3 _ _ => ⟨H0, O0, own3, e', E3, ?_⟩
        have s3 : Same (hide H' (tO O0 own2)) (hide H' (tO O0 own3)) := hide_same (Same.refl H') fun a o _ z => sub3 a z
        cases q6 : g e' with
        | no => simp only [q6] at h3; exact h3
        | rt c => simp only [q6] at h3; exact h3
        | re c e2 => simp only [q6] at h3; exact h3
        | bk e2 => simp only [q6] at h3; exact OutH.mono s3 h3
        | ex k fs e2 => simp only [q6] at h3; exact OutH.mono s3 h3
        | nx e2 =>
          simp only [q6] at h3
          exact fun σ4 H4 own4 E4 s4 => ⟨own4, e2, E4, (s2.trans s3).trans s4, OutH.mono (s3.trans s4) h3⟩
        | ct e2 =>
          simp only [q6] at h3
          exact fun σ4 H4 own4 E4 s4 => ⟨own4, e2, E4, (s2.trans s3).trans s4, OutH.mono (s3.trans s4) h3⟩
    · have e : i = xs.length := by omega
      subst e
      rw [List.drop_length] at h2
      exact .inl ⟨i2 (Nat.le_refl _), h2 σ2 H2 own2 E2 (Same.refl _)⟩
theorem ds_while (fuel : Nat) (hp : PassesOwn (model X.prog X.w) X.A X.env X.xe) (hc : PT X c (ttD (X.kw la) X.mg W ta)) (hb : PSs X sts (tsD (X.kw la) X.mg W g)) : PS X (.While c sts [] pos) (tsD (X.kw la) X.mg W fun en => whileD ta g fuel en) := PS.imp (ps_while hp hc hb) fun D σ H ⟨H0, O0, own, env, E, h⟩ => by
  refine ⟨fun m σ2 H2 => ∃ own2, ∃ env2, EnvOk (X.kw la) H0 H2 O0 own2 σ2 env2 ∧ OutH (X.kw la) X.mg W H0 O0 H2 (tO O0 own2) D (whileD ta g m env2), ⟨fuel, own, env, E, h⟩, ?_⟩
  rintro m σ2 H2 ⟨own2, env2, E2, h2⟩
  refine ⟨H0, O0, own2, env2, E2, ?_⟩
  cases m with
  | zero => exact h2.elim
  | succ m =>
    unfold whileD at h2
    cases q : ta env2 with
    | no => simp only [q, R.into_no] at h2; exact h2
    | ex k fs => simp only [q, R.into_ex] at h2; exact into_ex E2 h2
    | ok b =>
      simp only [q, R.into_ok] at h2
      intro H3 s3
      cases b with
      | false =>
        rw [if_neg Bool.false_ne_true] at h2 ⊢
        exact h2 σ2 H3 own2 (E2.mono s3) (same_h s3)
      | true =>
        rw [if_pos rfl] at h2 ⊢
        refine ⟨fun σ' H' => ∃ own', ∃ env', EnvOk (X.kw la) H0 H' O0 own' σ' env' ∧ OutH (X.kw la) X.mg W H0 O0 H' (tO O0 own') D (whileD ta g m env'), fun σ' H' hN => ⟨m, Nat.lt_succ_self m, hN⟩, H0, O0, own2, env2, E2.mono s3, ?_⟩
        have sh := same_h (O := tO O0 own2) s3
        cases q6 : g env2 with
        | no => simp only [q6] at h2; exact h2
        | rt c => simp only [q6] at h2; exact h2
        | re c e2 => simp only [q6] at h2; exact h2
        | bk e2 => simp only [q6] at h2; exact OutH.mono sh h2
        | ex k fs e2 => simp only [q6] at h2; exact OutH.mono sh h2
        | nx e2 =>
          simp only [q6] at h2
          exact fun σ4 H4 own4 E4 s4 => ⟨own4, e2, E4, OutH.mono (sh.trans s4) h2⟩
        | ct e2 =>
          simp only [q6] at h2
          exact fun σ4 H4 own4 E4 s4 => ⟨own4, e2, E4, OutH.mono (sh.trans s4) h2⟩
end
end DL
/-! ## DL, part 8: comprehensions, tables, reversed, a def's body -/
namespace DL
open PySem PySem.Spec PyProof.Rows L2
section
variable {X : Cx} {la : Nat → Addr} {W : WX} {tg e l a b c elt : Expr} {fa fb fc fe : Env → R Cell} {fi : Env → R (List D)} {ta tb : Env → R Bool} {g g1 g2 : Env → Out} {pos p p' : Pos} {st : Stmt} {sts sts2 : List Stmt}
/-- reversed(range(a)) -/
theorem df_rev1 {q q' : Pos} (hm : X.mg "reversed" = none) (hm2 : X.mg "range" = none) (ha : PE X a (teD (X.kw la) X.mg W fa)) (hg : Gl X "reversed" := by rfl) (hg2 : Gl X "range" := by rfl) (na : starEach [a] X.env = (false, eval a X.env) :: starEach [] X.env := by rfl)
    (hs : starEach [.Call (.Name "range" q) [a] [] q'] X.env = (false, eval (.Call (.Name "range" q) [a] [] q') X.env) :: starEach [] X.env := by rfl) : PI X tg (.Call (.Name "reversed" p) [.Call (.Name "range" q) [a] [] q'] [] pos) (wfD (X.kw la) X.mg W fun en => (fa en).bind rngRevD) :=
  PI.imp (pi_revR hg hm (prg_1 hg2 hm2 ha na) hs) fun σ H P ⟨H0, O0, own, env, E, h⟩ => by
  refine ⟨H0, O0, own, env, E, ?_⟩
  cases q : fa env with
  | no => simp only [q, R.bind_no] at h; exact h
  | ex k fs => simp only [q, R.bind_ex] at h; exact h
  | ok c =>
    simp only [q, R.bind_ok] at h
    intro v H1 os s1 fr nd r
    unfold rngRevD at h
    split at h
    · rename_i j
      have e : v = .int j := Dp_int r.2
      subst e
      split at h
      · rename_i hb
        refine ⟨j, rfl, by decide, by decide, hb.1, hb.2, h _ H1 s1 itF_c⟩
      · exact h.elim
    · exact h.elim
/-! ### comprehensions -/
theorem wipe_get {σ : L2.St} {i : Nat} : ∀ {vs : List Nat}, (wipe σ vs)[i]? = if i ∈ vs then (if i < σ.length then some none else none) else σ[i]?
  | [] => by simp [wipe]
  | v :: vs => by
    unfold wipe
    by_cases hv : i = v
    · subst hv
      by_cases hl : i < σ.length
      · rw [List.getElem?_set_self (by rw [wipe_length]; exact hl)]
        simp [hl]
      · rw [List.getElem?_eq_none (by rw [List.length_set, wipe_length]; omega)]
        simp [hl]
    · rw [List.getElem?_set_ne (Ne.symm hv), wipe_get]
      simp [hv]
theorem wipe_twice {σ : L2.St} {vs : List Nat} : wipe (wipe σ vs) vs = wipe σ vs := by
  refine List.ext_getElem? fun i => ?_
  rw [wipe_get, wipe_get, wipe_length]
  by_cases h : i ∈ vs
  · simp [h]
  · simp [h]
def ownMove (own : Nat → List Addr) (i n : Nat) : Nat → List Addr := fun j => if j = n then own n ++ own i else if j = i then [] else own j
theorem tO_move {O0 : Addr → Prop} {own : Nat → List Addr} {i n : Nat} {a : Addr} : tO O0 (ownMove own i n) a ↔ tO O0 own a := by
  unfold tO ownMove
  constructor
  · rintro (h | ⟨j, h⟩)
    · exact .inl h
    · by_cases hj : j = n
      · rw [if_pos hj] at h
        rcases List.mem_append.mp h with h | h
        · exact .inr ⟨n, h⟩
        · exact .inr ⟨i, h⟩
      · rw [if_neg hj] at h
        by_cases hi : j = i
        · rw [if_pos hi] at h
          cases h
        · rw [if_neg hi] at h
          exact .inr ⟨j, h⟩
  · rintro (h | ⟨j, h⟩)
    · exact .inl h
    · by_cases hj : j = n
      · exact .inr ⟨n, by rw [if_pos rfl, ← hj]; exact List.mem_append_left _ h⟩
      · by_cases hi : j = i
        · exact .inr ⟨n, by rw [if_pos rfl, ← hi]; exact List.mem_append_right _ h⟩
        · exact .inr ⟨j, by rw [if_neg hj, if_neg hi]; exact h⟩
/-- the slots vs forgotten: what they own is kept aside -/
theorem wipe_ok {K : KW} {H0 H : Hp} {O0 : Addr → Prop} {own : Nat → List Addr} {σ : L2.St} {env : Env} (E : EnvOk K H0 H O0 own σ env) : ∀ vs : List Nat, ∃ own', EnvOk K H0 H O0 own' (wipe σ vs) (wipeC env vs) ∧ (∀ a, tO O0 own' a ↔ tO O0 own a) ∧ (wipeC env vs).length = env.length ∧ ∀ i ∈ vs, i < env.length → own' i = []
  | [] => ⟨own, E, fun _ => Iff.rfl, rfl, fun i h => (by cases h)⟩
  | i :: vs => by
    obtain ⟨own', E', eo, el, em⟩ := wipe_ok E vs
    by_cases hi : i < env.length
    · have hn : i ≠ env.length := Nat.ne_of_lt hi
      have hd : Same (hide H (tO O0 own')) (hide H (tO O0 (ownMove own' i env.length))) := hide_same (Same.refl H) fun a o _ z => tO_move.mp z
      refine ⟨ownMove own' i env.length, ⟨E'.same, by unfold wipe wipeC; rw [List.length_set, List.length_set]; exact E'.len, fun j c e => ?_, fun j a h => ?_, fun j => ?_, fun j k a hjk h1 h2 => ?_, fun j a h => ?_, E'.o0⟩, fun a => tO_move.trans (eo a), by unfold wipeC; rw [List.length_set]; exact el, fun j hj hl => ?_⟩
      · unfold wipeC at e
        unfold wipe
        by_cases hj : j = i
        · subst hj
          rw [List.getElem?_set_self (by rw [el]; exact hi)] at e
          cases e
          exact .inl rfl
        · rw [List.getElem?_set_ne (Ne.symm hj)] at e ⊢
          have hjn : j ≠ env.length := fun z => by
            rw [z, List.getElem?_eq_none (by rw [el]; exact Nat.le_refl _)] at e
            cases e
          have e2 : ownMove own' i env.length j = own' j := by
            unfold ownMove
            rw [if_neg hjn, if_neg hj]
          rw [e2]
          exact SlotR_mono (Same.refl H) (fun a o _ z => tO_move.mp z) (E'.cell j c e)
      · unfold ownMove at h
        by_cases hj : j = env.length
        · rw [if_pos hj] at h
          rcases List.mem_append.mp h with h | h
          · exact E'.th _ a h
          · exact E'.th _ a h
        · rw [if_neg hj] at h
          by_cases hji : j = i
          · rw [if_pos hji] at h
            cases h
          · rw [if_neg hji] at h
            exact E'.th j a h
      · unfold ownMove
        by_cases hj : j = env.length
        · rw [if_pos hj]
          exact List.nodup_append.mpr ⟨E'.nd _, E'.nd _, fun a h1 b h2 z => E'.dj _ i a (Ne.symm hn) h1 (by rw [z]; exact h2)⟩
        · rw [if_neg hj]
          by_cases hji : j = i
          · rw [if_pos hji]
            exact List.nodup_nil
          · rw [if_neg hji]
            exact E'.nd j
      · unfold ownMove at h1 h2
        by_cases hj : j = env.length
        · have hk : k ≠ env.length := fun z => hjk (hj.trans z.symm)
          rw [if_pos hj] at h1
          rw [if_neg hk] at h2
          by_cases hki : k = i
          · rw [if_pos hki] at h2
            cases h2
          · rw [if_neg hki] at h2
            rcases List.mem_append.mp h1 with h1 | h1
            · exact E'.dj _ k a (Ne.symm hk) h1 h2
            · exact E'.dj i k a (Ne.symm hki) h1 h2
        · rw [if_neg hj] at h1
          by_cases hji : j = i
          · rw [if_pos hji] at h1
            cases h1
          · rw [if_neg hji] at h1
            by_cases hk : k = env.length
            · rw [if_pos hk] at h2
              rcases List.mem_append.mp h2 with h2 | h2
              · exact E'.dj j _ a hj h1 h2
              · exact E'.dj j i a hji h1 h2
            · rw [if_neg hk] at h2
              by_cases hki : k = i
              · rw [if_pos hki] at h2
                cases h2
              · rw [if_neg hki] at h2
                exact E'.dj j k a hjk h1 h2
      · unfold ownMove at h
        by_cases hj : j = env.length
        · rw [if_pos hj] at h
          rcases List.mem_append.mp h with h | h
          · exact E'.fresh _ a h
          · exact E'.fresh _ a h
        · rw [if_neg hj] at h
          by_cases hji : j = i
          · rw [if_pos hji] at h
            cases h
          · rw [if_neg hji] at h
            exact E'.fresh j a h
      · unfold ownMove
        rw [if_neg (Nat.ne_of_lt hl)]
        by_cases hji : j = i
        · rw [if_pos hji]
        · rw [if_neg hji]
          rcases List.mem_cons.mp hj with z | z
          · exact absurd z hji
          · exact em j z hl
    · refine ⟨own', ?_, eo, by unfold wipeC; rw [List.length_set]; exact el, fun j hj hl => ?_⟩
      · unfold wipe wipeC
        rw [List.set_eq_of_length_le (by rw [E'.len, el]; omega), List.set_eq_of_length_le (by rw [el]; omega)]
        exact E'
      · rcases List.mem_cons.mp hj with z | z
        · exact absurd (by rw [← z]; exact hl) hi
        · exact em j z hl
/-- objects that belong to the block -/
def ownX (own : Nat → List Addr) (n : Nat) (os : List Addr) : Nat → List Addr := fun j => if j = n then own n ++ os else own j
theorem tO_X {O0 : Addr → Prop} {own : Nat → List Addr} {n : Nat} {os : List Addr} {a : Addr} : tO O0 (ownX own n os) a ↔ tO O0 own a ∨ a ∈ os := by
  unfold tO ownX
  constructor
  · rintro (h | ⟨j, h⟩)
    · exact .inl (.inl h)
    · by_cases hj : j = n
      · rw [if_pos hj] at h
        rcases List.mem_append.mp h with h | h
        · exact .inl (.inr ⟨n, h⟩)
        · exact .inr h
      · rw [if_neg hj] at h
        exact .inl (.inr ⟨j, h⟩)
  · rintro ((h | ⟨j, h⟩) | h)
    · exact .inl h
    · refine .inr ⟨j, ?_⟩
      by_cases hj : j = n
      · rw [if_pos hj, ← hj]
        exact List.mem_append_left _ h
      · rw [if_neg hj]
        exact h
    · exact .inr ⟨n, by rw [if_pos rfl]; exact List.mem_append_right _ h⟩
theorem hide_X {H : Hp} {O0 : Addr → Prop} {own : Nat → List Addr} {n : Nat} {os : List Addr} : hide H (tO O0 (ownX own n os)) = hide H (fun a => tO O0 own a ∨ a ∈ os) := by
  have e : tO O0 (ownX own n os) = fun a => tO O0 own a ∨ a ∈ os := by
    funext a
    exact propext tO_X
  rw [e]
theorem block_ok {K : KW} {H0 H H1 : Hp} {O0 : Addr → Prop} {own : Nat → List Addr} {σ : L2.St} {env : Env} {os : List Addr} (E : EnvOk K H0 H O0 own σ env) (s : Same H H1) (fr : ∀ a ∈ os, H a = none) (th : ∀ a ∈ os, ∃ o, H1 a = some o) (nd : os.Nodup) : EnvOk K H0 H1 O0 (ownX own env.length os) σ env := by
  have E1 := E.mono s
  have dis : ∀ j a, a ∈ own j → a ∉ os := fun j a h z => by
    obtain ⟨o, e⟩ := E.th j a h
    rw [fr a z] at e
    cases e
  have sm : Same (hide H (tO O0 own)) (hide H1 (tO O0 (ownX own env.length os))) := fun a o e => by
    obtain ⟨n, e⟩ := hide_eq.mp e
    refine hide_eq.mpr ⟨fun z => ?_, s _ _ e⟩
    rcases tO_X.mp z with z | z
    · exact n z
    · rw [fr a z] at e
      cases e
  refine ⟨E1.same, E1.len, fun i c e => ?_, fun i a h => ?_, fun i => ?_, fun i j a hij h1 h2 => ?_, fun i a h => ?_, E.o0⟩
  · have hi : i ≠ env.length := fun z => by
      rw [z, List.getElem?_eq_none (Nat.le_refl _)] at e
      cases e
    have eo : ownX own env.length os i = own i := if_neg hi
    rw [eo]
    exact SlotR_mono s (fun a o q z => by
      rcases tO_X.mp z with z | z
      · exact z
      · rw [fr a z] at q
        cases q) (E.cell i c e)
  · unfold ownX at h
    by_cases hi : i = env.length
    · rw [if_pos hi] at h
      rcases List.mem_append.mp h with h | h
      · exact E1.th _ _ h
      · exact th a h
    · rw [if_neg hi] at h
      exact E1.th i a h
  · unfold ownX
    by_cases hi : i = env.length
    · rw [if_pos hi]
      exact List.nodup_append.mpr ⟨E.nd _, nd, fun a h1 b h2 z => dis _ a h1 (by rw [z]; exact h2)⟩
    · rw [if_neg hi]
      exact E.nd i
  · unfold ownX at h1 h2
    by_cases hi : i = env.length
    · have hj : j ≠ env.length := fun z => hij (hi.trans z.symm)
      rw [if_pos hi] at h1
      rw [if_neg hj] at h2
      rcases List.mem_append.mp h1 with h1 | h1
      · exact E.dj _ j a (Ne.symm hj) h1 h2
      · exact dis j a h2 h1
    · rw [if_neg hi] at h1
      by_cases hj : j = env.length
      · rw [if_pos hj] at h2
        rcases List.mem_append.mp h2 with h2 | h2
        · exact E.dj i _ a hi h1 h2
        · exact dis i a h1 h2
      · rw [if_neg hj] at h2
        exact E.dj i j a hij h1 h2
  · unfold ownX at h
    by_cases hi : i = env.length
    · rw [if_pos hi] at h
      rcases List.mem_append.mp h with h | h
      · exact E.fresh _ a h
      · exact E.same.free (fr a h)
    · rw [if_neg hi] at h
      exact E.fresh i a h
theorem mapR_ok {α β : Type} {f : α → R β} {x : α} {xs : List α} {zs : List β} (h : mapR f (x :: xs) = .ok zs) : ∃ y ys, f x = .ok y ∧ mapR f xs = .ok ys ∧ zs = y :: ys := by
  unfold mapR at h
  cases q : f x with
  | no => rw [q] at h; cases h
  | ex k fs => rw [q] at h; cases h
  | ok y =>
    rw [q] at h
    cases q2 : mapR f xs with
    | no => rw [q2] at h; cases h
    | ex k fs => rw [q2] at h; cases h
    | ok ys =>
      rw [q2] at h
      cases h
      exact ⟨y, ys, rfl, rfl, rfl⟩
theorem mapIf_ok {α β : Type} {t : α → R Bool} {f : α → R β} {x : α} {xs : List α} {zs : List β} (h : mapIf t f (x :: xs) = .ok zs) : (t x = .ok false ∧ mapIf t f xs = .ok zs) ∨ ∃ y ys, t x = .ok true ∧ f x = .ok y ∧ mapIf t f xs = .ok ys ∧ zs = y :: ys := by
  unfold mapIf at h
  cases q : t x with
  | no => rw [q] at h; cases h
  | ex k fs => rw [q] at h; cases h
  | ok b =>
    rw [q] at h
    cases b with
    | false => exact .inl ⟨rfl, h⟩
    | true =>
      simp only [R.bind_ok, if_true] at h
      cases q1 : f x with
      | no => rw [q1] at h; cases h
      | ex k fs => rw [q1] at h; cases h
      | ok y =>
        rw [q1] at h
        cases q2 : mapIf t f xs with
        | no => simp only [R.bind_ok, q2, R.bind_no] at h; cases h
        | ex k fs => simp only [R.bind_ok, q2, R.bind_ex] at h; cases h
        | ok ys =>
          simp only [R.bind_ok, q2] at h
          cases h
          exact .inr ⟨y, ys, rfl, rfl, rfl, rfl⟩
/-- no exception leaves a comprehension's block -/
abbrev W0 : WX := fun _ _ _ _ => False
/-- the tests of a comprehension -/
theorem dts_nil : PTs X [] (ttD (X.kw la) X.mg W fun _ => .ok true) := ⟨fun pins s σ H Q I ⟨H0, O0, own, env, E, h⟩ => pts_nil.run pins s σ H Q I (h H (Same.refl H))⟩
theorem dts_one (h : PT X c (ttD (X.kw la) X.mg W ta)) : PTs X [c] (ttD (X.kw la) X.mg W ta) := pts_one h
/-- [elt for tg in l if ..], a list of data -/
theorem lc_dat {K : KW} {mg : Str → Option Value} {vs : List Nat} {T : Tg} (hT : ∀ i ∈ T.slots, i ∈ vs) : ∀ σ H Q, teD K mg W (fun en => (fi en).bind fun xs => lcL (lcD vs T ta fe xs en)) σ H Q → tLc (wcD K mg W fi) (T.tg K) (ttD K mg W0 ta) (teD K mg W0 fe) vs σ H Q := fun σ H Q ⟨H0, O0, own, env, E, h⟩ => by
  refine ⟨H0, O0, own, env, E, ?_⟩
  cases q : fi env with
  | no => simp only [q, R.bind_no] at h; exact h
  | ex k fs => simp only [q, R.bind_ex] at h; exact h
  | ok xs =>
    simp only [q, R.bind_ok] at h
    intro J H1 s1 it A hA
    unfold lcL at h
    cases q2 : lcD vs T ta fe xs env with
    | no => simp only [q2] at h; exact h.elim
    | ex k fs => simp only [q2] at h; exact h.elim
    | ok cs =>
      simp only [q2] at h
      cases q3 : mapR asD cs with
      | no => simp only [q3] at h; exact h.elim
      | ex k fs => simp only [q3] at h; exact h.elim
      | ok ds =>
        simp only [q3] at h
        split at h
        · rename_i hl
          have hn : H A = none := s1.free hA
          refine ⟨fun i m H2 => m = xs.length - i ∧ i ≤ xs.length ∧ ∃ acc ys cs2 zs, Same H1 H2 ∧ H2 A = some (.lst acc) ∧ DpAll K (hide H2 (fun a => tO O0 own a ∨ a ∈ [A])) acc ys ∧ lcD vs T ta fe (xs.drop i) env = .ok cs2 ∧ mapR asD cs2 = .ok zs ∧ ys ++ zs = ds,
            ⟨xs.length, by simp, Nat.zero_le _, [], [], cs, ds, fun b o e => by rw [upd_ne (ne_of_none e hA)]; exact e, upd_same, .nil, q2, q3, rfl⟩, ?_⟩
          rintro i m H2 ⟨rfl, hi, acc, ys, cs2, zs, s2, eA, r, h3, h4, h5⟩
          obtain ⟨i1, i2⟩ := it i H2 s2
          by_cases hlt : i < xs.length
          · obtain ⟨x, hx⟩ : ∃ x, xs[i]? = some x := ⟨_, List.getElem?_eq_getElem hlt⟩
            obtain ⟨j1, j2⟩ := i1 x hx
            have ed : xs.drop i = x :: xs.drop (i + 1) := by
              rw [List.drop_eq_getElem_cons hlt]
              rw [List.getElem?_eq_getElem hlt] at hx
              rw [Option.some.inj hx]
            rw [ed] at h3
            refine .inr ⟨j1, fun H' => ∃ acc' ys' cs' zs', Same H1 H' ∧ H' A = some (.lst acc') ∧ DpAll K (hide H' (fun a => tO O0 own a ∨ a ∈ [A])) acc' ys' ∧ lcD vs T ta fe (xs.drop (i + 1)) env = .ok cs' ∧ mapR asD cs' = .ok zs' ∧ ys' ++ zs' = ds, fun H' hN => ⟨xs.length - (i + 1), by omega, rfl, hlt, hN⟩, fun v H' y => ?_⟩
            obtain ⟨rfl, hv⟩ := j2 v H' y
            have E2 : EnvOk K H0 H' O0 (ownX own env.length [A]) σ env := block_ok E (s1.trans s2) (fun a ha => by rw [List.mem_singleton.mp ha]; exact hn) (fun a ha => by rw [List.mem_singleton.mp ha]; exact ⟨_, eA⟩) (by simp)
            obtain ⟨own3, E3, eo3, el3, em3⟩ := wipe_ok E2 vs
            have hv2 : Dp K (hide H' (tO O0 own3)) v x := Dp_mono (fun b o w => by
              obtain ⟨n, w⟩ := hide_eq.mp w
              refine hide_eq.mpr ⟨fun z => ?_, s2 _ _ w⟩
              rcases tO_X.mp ((eo3 _).mp z) with z | z
              · exact n z
              · rw [List.mem_singleton.mp z, hA] at w
                cases w) _ _ hv
            have h3' := mapIf_ok h3
            cases q5 : T.put x (wipeC env vs) with
            | none =>
              simp only [q5] at h3'
              rcases h3' with ⟨z, _⟩ | ⟨_, _, z, _⟩ <;> cases z
            | some e' =>
              simp only [q5] at h3'
              refine tg_ok T E3 hv2 q5 fun σ3 own4 E4 sub3 hw ek => ⟨(hw vs hT).trans wipe_twice, H0, O0, own4, e', E4, ?_⟩
              have e4 : own4 = own3 := ek fun i hi hl => em3 i (hT i hi) (by rw [el3] at hl; exact hl)
              subst e4
              have seen : ∀ {H4 : Hp}, Same H' H4 → DpAll K (hide H4 (fun a => tO O0 own a ∨ a ∈ [A])) acc ys := fun s4 => DpAll_mono (same_h s4) _ _ r
              rcases h3' with ⟨t1, t2⟩ | ⟨c', cs', t1, t2, t3, t4⟩
              · rw [t1]
                intro H4 s4
                rw [if_neg Bool.false_ne_true]
                exact ⟨acc, ys, cs2, zs, s2.trans s4, s4 _ _ eA, seen s4, t2, h4, h5⟩
              · rw [t1]
                intro H4 s4
                rw [if_pos rfl]
                refine ⟨H0, O0, own4, e', E4.mono s4, ?_⟩
                rw [t2]
                intro u H5 os s5 fr5 nd5 r5
                subst t4
                obtain ⟨d', zs', z1, z2, z3⟩ := mapR_ok h4
                subst z3
                have s45 := s4.trans s5
                have hd : Dp K (hide H5 (tO O0 own4)) u d' := dat_at (E4.mono s4) fr5 r5 z1
                -- what the element leans on: neither owned by the frame nor the new list
                have hd2 : Dp K (hide H5 (fun a => tO O0 own a ∨ a ∈ [A])) u d' := Dp_mono (hide_same (Same.refl H5) fun a o _ z => (eo3 a).mpr (tO_X.mpr z)) _ _ hd
                have n : acc.length < sizeLine := by
                  rw [DpAll_len r, sizeLine_eq]
                  have : ys.length + (zs'.length + 1) = ds.length := by rw [← h5, List.length_append, List.length_cons]
                  omega
                refine ⟨acc, s45 _ _ eA, n, acc ++ [u], ys ++ [d'], cs', zs', fun b o w => ?_, upd_same, ?_, t3, z2, by rw [List.append_assoc]; exact h5⟩
                · rw [upd_ne (ne_of_none w hA)]
                  exact (s2.trans s45) _ _ w
                · have up : Same (hide H5 (fun a => tO O0 own a ∨ a ∈ [A])) (hide (upd H5 A (.lst (acc ++ [u]))) (fun a => tO O0 own a ∨ a ∈ [A])) := fun b o w => by
                    obtain ⟨w1, w2⟩ := hide_eq.mp w
                    refine hide_eq.mpr ⟨w1, ?_⟩
                    rw [upd_ne fun z => w1 (.inr (by rw [z]; exact List.mem_cons_self))]
                    exact w2
                  exact DpAll_mono up _ _ (DpAll_append (seen s45) (.cons hd2 .nil))
          · have e : i = xs.length := by omega
            subst e
            rw [List.drop_length] at h3
            cases h3
            cases h4
            rw [List.append_nil] at h5
            subst h5
            refine .inl ⟨i2 (Nat.le_refl _), h (.ref A) H2 [A] (s1.trans s2) (fun a ha => by rw [List.mem_singleton.mp ha]; exact hn) (by simp) ⟨A, acc, rfl, rfl, eA, r⟩⟩
        · exact h.elim
theorem asRow_ok {cell : Cell} {xs : List D} (h : asRow cell = .ok xs) : cell = .own xs := by
  unfold asRow at h
  split at h
  · cases h
    rfl
  · cases h
theorem RowsR_append {K : KW} {H : Hp} {O : Addr → Prop} {bl : Addr} {ys : List D} (z : ∃ vs, H bl = some (.lst vs) ∧ DpAll K (hide H O) vs ys) : ∀ {as : List Addr} {xss : List (List D)}, RowsR K H O as xss → RowsR K H O (as ++ [bl]) (xss ++ [ys])
  | [], [], _ => ⟨z, trivial⟩
  | _ :: _, _ :: _, ⟨q, r⟩ => ⟨q, RowsR_append z r⟩
  | [], _ :: _, r => r.elim
  | _ :: _, [], r => r.elim
/-- [elt for tg in l if ..], a list of own lists -/
theorem lc_row {K : KW} {mg : Str → Option Value} {vs : List Nat} {T : Tg} (hT : ∀ i ∈ T.slots, i ∈ vs) : ∀ σ H Q, teD K mg W (fun en => (fi en).bind fun xs => lcR (lcD vs T ta fe xs en)) σ H Q → tLc (wcD K mg W fi) (T.tg K) (ttD K mg W0 ta) (teD K mg W0 fe) vs σ H Q := fun σ H Q ⟨H0, O0, own, env, E, h⟩ => by
  refine ⟨H0, O0, own, env, E, ?_⟩
  cases q : fi env with
  | no => simp only [q, R.bind_no] at h; exact h
  | ex k fs => simp only [q, R.bind_ex] at h; exact h
  | ok xs =>
    simp only [q, R.bind_ok] at h
    intro J H1 s1 it A hA
    unfold lcR at h
    cases q2 : lcD vs T ta fe xs env with
    | no => simp only [q2] at h; exact h.elim
    | ex k fs => simp only [q2] at h; exact h.elim
    | ok cs =>
      simp only [q2] at h
      cases q3 : mapR asRow cs with
      | no => simp only [q3] at h; exact h.elim
      | ex k fs => simp only [q3] at h; exact h.elim
      | ok ds =>
        simp only [q3] at h
        split at h
        · rename_i hl
          have hn : H A = none := s1.free hA
          refine ⟨fun i m H2 => m = xs.length - i ∧ i ≤ xs.length ∧ ∃ (as : List Addr) (ys : List (List D)) (cs2 : List Cell) (zs : List (List D)), Same H1 H2 ∧ (∀ b ∈ as, H1 b = none) ∧ (A :: as).Nodup ∧ H2 A = some (.lst (as.map V.ref)) ∧ RowsR K H2 (fun a => tO O0 own a ∨ a ∈ A :: as) as ys ∧ lcD vs T ta fe (xs.drop i) env = .ok cs2 ∧ mapR asRow cs2 = .ok zs ∧ ys ++ zs = ds,
            ⟨xs.length, by simp, Nat.zero_le _, [], [], cs, ds, fun b o e => by rw [upd_ne (ne_of_none e hA)]; exact e, fun b hb => (by cases hb), by simp, upd_same, trivial, q2, q3, rfl⟩, ?_⟩
          rintro i m H2 ⟨rfl, hi, as, ys, cs2, zs, s2, fa, nda, eA, r, h3, h4, h5⟩
          obtain ⟨i1, i2⟩ := it i H2 s2
          have fr : ∀ b ∈ A :: as, H1 b = none := fun b hb => by
            rcases List.mem_cons.mp hb with z | z
            · rw [z]; exact hA
            · exact fa b z
          by_cases hlt : i < xs.length
          · obtain ⟨x, hx⟩ : ∃ x, xs[i]? = some x := ⟨_, List.getElem?_eq_getElem hlt⟩
            obtain ⟨j1, j2⟩ := i1 x hx
            have ed : xs.drop i = x :: xs.drop (i + 1) := by
              rw [List.drop_eq_getElem_cons hlt]
              rw [List.getElem?_eq_getElem hlt] at hx
              rw [Option.some.inj hx]
            rw [ed] at h3
            refine .inr ⟨j1, fun H' => ∃ (as : List Addr) (ys : List (List D)) (cs2 : List Cell) (zs : List (List D)), Same H1 H' ∧ (∀ b ∈ as, H1 b = none) ∧ (A :: as).Nodup ∧ H' A = some (.lst (as.map V.ref)) ∧ RowsR K H' (fun a => tO O0 own a ∨ a ∈ A :: as) as ys ∧ lcD vs T ta fe (xs.drop (i + 1)) env = .ok cs2 ∧ mapR asRow cs2 = .ok zs ∧ ys ++ zs = ds, fun H' hN => ⟨xs.length - (i + 1), by omega, rfl, hlt, hN⟩, fun v H' y => ?_⟩
            obtain ⟨rfl, hv⟩ := j2 v H' y
            have E2 : EnvOk K H0 H' O0 (ownX own env.length (A :: as)) σ env := block_ok E (s1.trans s2) (fun a ha => s1.free (fr a ha)) (fun a ha => by
              rcases List.mem_cons.mp ha with z | z
              · rw [z]; exact ⟨_, eA⟩
              · exact RowsR_there r a z) nda
            obtain ⟨own3, E3, eo3, el3, em3⟩ := wipe_ok E2 vs
            have hv2 : Dp K (hide H' (tO O0 own3)) v x := Dp_mono (fun b o w => by
              obtain ⟨n, w⟩ := hide_eq.mp w
              refine hide_eq.mpr ⟨fun z => ?_, s2 _ _ w⟩
              rcases tO_X.mp ((eo3 _).mp z) with z | z
              · exact n z
              · rw [fr _ z] at w
                cases w) _ _ hv
            have h3' := mapIf_ok h3
            cases q5 : T.put x (wipeC env vs) with
            | none =>
              simp only [q5] at h3'
              rcases h3' with ⟨z, _⟩ | ⟨_, _, z, _⟩ <;> cases z
            | some e' =>
              simp only [q5] at h3'
              refine tg_ok T E3 hv2 q5 fun σ3 own4 E4 sub3 hw ek => ⟨(hw vs hT).trans wipe_twice, H0, O0, own4, e', E4, ?_⟩
              have e4 : own4 = own3 := ek fun i hi hl => em3 i (hT i hi) (by rw [el3] at hl; exact hl)
              subst e4
              have seen : ∀ {H4 : Hp}, Same H' H4 → RowsR K H4 (fun a => tO O0 own a ∨ a ∈ A :: as) as ys := fun s4 => RowsR_mono s4 (fun _ _ _ z => z) r
              rcases h3' with ⟨t1, t2⟩ | ⟨c', cs', t1, t2, t3, t4⟩
              · rw [t1]
                intro H4 s4
                rw [if_neg Bool.false_ne_true]
                exact ⟨as, ys, cs2, zs, s2.trans s4, fa, nda, s4 _ _ eA, seen s4, t2, h4, h5⟩
              · rw [t1]
                intro H4 s4
                rw [if_pos rfl]
                refine ⟨H0, O0, own4, e', E4.mono s4, ?_⟩
                rw [t2]
                intro u H5 os s5 fr5 nd5 r5
                subst t4
                obtain ⟨d', zs', z1, z2, z3⟩ := mapR_ok h4
                subst z3
                have s45 := s4.trans s5
                have ec := asRow_ok z1
                subst ec
                obtain ⟨bl, ws, rfl, eo, eb, rb⟩ := r5
                have nb : H4 bl = none := fr5 bl (by rw [eo]; exact List.mem_cons_self)
                have n : (as.map V.ref).length < sizeLine := by
                  rw [List.length_map, RowsR_len r, sizeLine_eq]
                  have : ys.length + (zs'.length + 1) = ds.length := by rw [← h5, List.length_append, List.length_cons]
                  omega
                have nA : bl ≠ A := fun z => by
                  rw [z, s4 _ _ eA] at nb
                  cases nb
                have nas : bl ∉ as := fun z => by
                  obtain ⟨o, w⟩ := RowsR_there r bl z
                  rw [s4 _ _ w] at nb
                  cases nb
                have up : Same (hide H5 (fun a => tO O0 own a ∨ a ∈ A :: as)) (hide (upd H5 A (.lst (as.map V.ref ++ [V.ref bl]))) (fun a => tO O0 own a ∨ a ∈ A :: as)) := fun b o w => by
                  obtain ⟨w1, w2⟩ := hide_eq.mp w
                  refine hide_eq.mpr ⟨w1, ?_⟩
                  rw [upd_ne fun z => w1 (.inr (by rw [z]; exact List.mem_cons_self))]
                  exact w2
                have less : ∀ a, (tO O0 own a ∨ a ∈ A :: as) ∨ a = bl → tO O0 own a ∨ a ∈ A :: (as ++ [bl]) := fun a z => by
                  rcases z with (z | z) | z
                  · exact .inl z
                  · refine .inr ?_
                    rcases List.mem_cons.mp z with z | z
                    · rw [z]; exact List.mem_cons_self
                    · exact List.mem_cons_of_mem _ (List.mem_append_left _ z)
                  · rw [z]; exact .inr (List.mem_cons_of_mem _ (List.mem_append_right _ (by simp)))
                have more : ∀ a, (tO O0 own a ∨ a ∈ A :: (as ++ [bl])) → (tO O0 own a ∨ a ∈ A :: as) ∨ a = bl := fun a z => by
                  rcases z with z | z
                  · exact .inl (.inl z)
                  · rcases List.mem_cons.mp z with z | z
                    · rw [z]; exact .inl (.inr List.mem_cons_self)
                    · rcases List.mem_append.mp z with z | z
                      · exact .inl (.inr (List.mem_cons_of_mem _ z))
                      · exact .inr (by simpa using z)
                -- what the elder rows lean on does not lean on the new row: it is younger
                have old : Same (hide H4 (fun a => tO O0 own a ∨ a ∈ A :: as)) (hide (upd H5 A (.lst (as.map V.ref ++ [V.ref bl]))) (fun a => tO O0 own a ∨ a ∈ A :: (as ++ [bl]))) := fun b o w => by
                  obtain ⟨w1, w2⟩ := hide_eq.mp w
                  refine hide_eq.mpr ⟨fun z => ?_, ?_⟩
                  · rcases more b z with z | z
                    · exact w1 z
                    · rw [z, nb] at w2
                      cases w2
                  · rw [upd_ne fun z => w1 (.inr (by rw [z]; exact List.mem_cons_self))]
                    exact s5 _ _ w2
                have rnew : DpAll K (hide (upd H5 A (.lst (as.map V.ref ++ [V.ref bl]))) (fun a => tO O0 own a ∨ a ∈ A :: (as ++ [bl]))) ws d' := by
                  refine DpAll_mono (fun b o w => ?_) _ _ rb
                  obtain ⟨w1, w2⟩ := hide_eq.mp w
                  have n1 : ¬ (tO O0 own b ∨ b ∈ A :: as) := fun z => w1 (.inl ((eo3 b).mpr (tO_X.mpr z)))
                  have n2 : b ≠ bl := fun z => w1 (.inr (by rw [z, eo]; exact List.mem_cons_self))
                  refine hide_eq.mpr ⟨fun z => (more b z).elim n1 n2, ?_⟩
                  rw [upd_ne fun z => n1 (.inr (by rw [z]; exact List.mem_cons_self))]
                  exact w2
                refine ⟨as.map V.ref, s45 _ _ eA, n, as ++ [bl], ys ++ [d'], cs', zs', fun b o w => ?_, fun b hb => ?_, ?_, ?_, ?_, t3, z2, by rw [List.append_assoc]; exact h5⟩
                · rw [upd_ne (ne_of_none w hA)]
                  exact (s2.trans s45) _ _ w
                · rcases List.mem_append.mp hb with z | z
                  · exact fa b z
                  · rw [show b = bl by simpa using z]
                    exact s2.free (s4.free nb)
                · refine List.nodup_cons.mpr ⟨fun z => ?_, List.nodup_append.mpr ⟨(List.nodup_cons.mp nda).2, by simp, fun a h1 b h2 z => ?_⟩⟩
                  · rcases List.mem_append.mp z with z | z
                    · exact (List.nodup_cons.mp nda).1 z
                    · exact nA (show A = bl by simpa using z).symm
                  · rw [show b = bl by simpa using h2] at z
                    exact nas (by rw [← z]; exact h1)
                · rw [upd_same, List.map_append]
                  rfl
                · refine RowsR_append ⟨ws, by rw [upd_ne nA]; exact eb, rnew⟩ (RowsR_up old (fun b hb o w => ?_) (seen s4))
                  rw [upd_ne fun z => (List.nodup_cons.mp nda).1 (by rw [← z]; exact hb)]
                  exact s5 _ _ w
          · have e : i = xs.length := by omega
            subst e
            rw [List.drop_length] at h3
            cases h3
            cases h4
            rw [List.append_nil] at h5
            subst h5
            exact .inl ⟨i2 (Nat.le_refl _), h (.ref A) H2 (A :: as) (s1.trans s2) (fun a ha => s1.free (fr a ha)) nda ⟨A, as, rfl, rfl, eA, r⟩⟩
        · exact h.elim
/-- the context of a comprehension's block -/
abbrev Bk (X : Cx) (scope : Scope) (s : Shared) (H : Hp) (C : Addr) (cl : List (Str × Addr)) (fp : List Addr) : Cx := X.blk s H scope (compEnvC scope cl C X.env) fp
variable {ifs : List Expr} {scope : Scope} {own : List (Str × Nat)} {T : Tg} {y : Str} {i : Nat} {py spos : Pos}
theorem de_lc (hc : X.calm = true) (hN : X.N.Nodup) (hi : PI X tg l (wcD (X.kw la) X.mg W fi)) (ok : BlkOk X.N X.env.scope scope own) (hg : ∀ s H C cl fp, PG (Bk X scope s H C cl fp) tg (T.tg X.K)) (ht : ∀ s H C cl fp, PTs (Bk X scope s H C cl fp) ifs (ttD (X.kw la) X.mg W0 ta)) (he : ∀ s H C cl fp, PE (Bk X scope s H C cl fp) elt (teD (X.kw la) X.mg W0 fe))
    (hT : ∀ i ∈ T.slots, i ∈ own.map (·.2) := by decide) (hs : ∀ x, foldedSetIterable l X.env x = pure x := by intro _; rfl) : PE X (.ListComp elt [⟨tg, l, ifs, 0⟩] scope pos) (teD (X.kw la) X.mg W fun en => (fi en).bind fun xs => lcL (lcD (own.map (·.2)) T ta fe xs en)) :=
  PE.imp (pe_lc hc hN hi ok hg ht he hs) (lc_dat hT)
theorem de_lcR (hc : X.calm = true) (hN : X.N.Nodup) (hi : PI X tg l (wcD (X.kw la) X.mg W fi)) (ok : BlkOk X.N X.env.scope scope own) (hg : ∀ s H C cl fp, PG (Bk X scope s H C cl fp) tg (T.tg X.K)) (ht : ∀ s H C cl fp, PTs (Bk X scope s H C cl fp) ifs (ttD (X.kw la) X.mg W0 ta)) (he : ∀ s H C cl fp, PE (Bk X scope s H C cl fp) elt (teD (X.kw la) X.mg W0 fe))
    (hT : ∀ i ∈ T.slots, i ∈ own.map (·.2) := by decide) (hs : ∀ x, foldedSetIterable l X.env x = pure x := by intro _; rfl) : PE X (.ListComp elt [⟨tg, l, ifs, 0⟩] scope pos) (teD (X.kw la) X.mg W fun en => (fi en).bind fun xs => lcR (lcD (own.map (·.2)) T ta fe xs en)) :=
  PE.imp (pe_lc hc hN hi ok hg ht he hs) (lc_row hT)
theorem set_lc {K : KW} {mg : Str → Option Value} {te : TE} (ht : ∀ σ H Q, teD K mg W fa σ H Q → te σ H Q) : ∀ D σ H, tsD K mg W (fun en => (fa en).into en (setR i en)) D σ H → tAsg te (gName i) D σ H := fun D σ H ⟨H0, O0, own, env, E, h⟩ => by
  refine ht σ H _ ⟨H0, O0, own, env, E, ?_⟩
  cases q : fa env with
  | no => simp only [q, R.into_no] at h; exact h
  | ex k fs => simp only [q, R.into_ex] at h; exact into_ex E h
  | ok c =>
    simp only [q, R.into_ok] at h
    unfold setR at h
    intro v H' os s fr nd r
    split at h
    · rename_i hl
      obtain ⟨E', s'⟩ := store_new E hl s fr nd r
      exact h _ H' _ E' s'
    · exact h.elim
/-- y = [..] on one line -/
theorem ds_lc (hc : X.calm = true) (hN : X.N.Nodup) (hsw : swapsWith (.ListComp elt [⟨tg, l, ifs, 0⟩] scope pos) (some (.Name y py)) spos.line X.env = pure true) (hi : PI X tg l (wcD (X.kw la) X.mg W fi)) (ok : BlkOk X.N X.env.scope scope own) (hg : ∀ s H C cl fp, PG (Bk X scope s H C cl fp) tg (T.tg X.K)) (ht : ∀ s H C cl fp, PTs (Bk X scope s H C cl fp) ifs (ttD (X.kw la) X.mg W0 ta)) (he : ∀ s H C cl fp, PE (Bk X scope s H C cl fp) elt (teD (X.kw la) X.mg W0 fe))
    (hy : X.N[i]? = some y := by rfl) (hyl : X.env.scope.names.lookup y = some .local := by rfl) (hT : ∀ i ∈ T.slots, i ∈ own.map (·.2) := by decide) (hs : ∀ x, foldedSetIterable l X.env x = pure x := by intro _; rfl) :
    PS X (.Assign [.Name y py] (.ListComp elt [⟨tg, l, ifs, 0⟩] scope pos) spos) (tsD (X.kw la) X.mg W fun en => ((fi en).bind fun xs => lcL (lcD (own.map (·.2)) T ta fe xs en)).into en (setR i en)) :=
  PS.imp (ps_setLc hc hN hy hyl hsw hi ok hg ht he hs) (set_lc (lc_dat hT))
theorem ds_lcR (hc : X.calm = true) (hN : X.N.Nodup) (hsw : swapsWith (.ListComp elt [⟨tg, l, ifs, 0⟩] scope pos) (some (.Name y py)) spos.line X.env = pure true) (hi : PI X tg l (wcD (X.kw la) X.mg W fi)) (ok : BlkOk X.N X.env.scope scope own) (hg : ∀ s H C cl fp, PG (Bk X scope s H C cl fp) tg (T.tg X.K)) (ht : ∀ s H C cl fp, PTs (Bk X scope s H C cl fp) ifs (ttD (X.kw la) X.mg W0 ta)) (he : ∀ s H C cl fp, PE (Bk X scope s H C cl fp) elt (teD (X.kw la) X.mg W0 fe))
    (hy : X.N[i]? = some y := by rfl) (hyl : X.env.scope.names.lookup y = some .local := by rfl) (hT : ∀ i ∈ T.slots, i ∈ own.map (·.2) := by decide) (hs : ∀ x, foldedSetIterable l X.env x = pure x := by intro _; rfl) :
    PS X (.Assign [.Name y py] (.ListComp elt [⟨tg, l, ifs, 0⟩] scope pos) spos) (tsD (X.kw la) X.mg W fun en => ((fi en).bind fun xs => lcR (lcD (own.map (·.2)) T ta fe xs en)).into en (setR i en)) :=
  PS.imp (ps_setLc hc hN hy hyl hsw hi ok hg ht he hs) (set_lc (lc_row hT))
/-! ### a table's item is set: t[k][j] = e, t in slot i -/
theorem RowsR_set {K : KW} {H H' : Hp} {O : Addr → Prop} (s : Same (hide H O) (hide H' O)) {al : Addr} {ys : List D} (z : ∃ vs, H' al = some (.lst vs) ∧ DpAll K (hide H' O) vs ys) (k : ∀ a o, a ≠ al → H a = some o → H' a = some o) : ∀ {as : List Addr} {xss : List (List D)} {j : Nat}, as.Nodup → as[j]? = some al → RowsR K H O as xss → RowsR K H' O as (xss.set j ys)
  | [], [], _, _, e, _ => by simp at e
  | a :: as, xs :: xss, 0, nd, e, ⟨q, r⟩ => by
    simp at e
    subst e
    refine ⟨z, RowsR_up s (fun b hb o w => k b o (fun zz => (List.nodup_cons.mp nd).1 (by rw [← zz]; exact hb)) w) r⟩
  | a :: as, xs :: xss, j + 1, nd, e, ⟨⟨vs, q1, q2⟩, r⟩ => by
    have e' : as[j]? = some al := by simpa using e
    have na : a ≠ al := fun zz => (List.nodup_cons.mp nd).1 (by rw [zz]; exact List.mem_of_getElem? e')
    exact ⟨⟨vs, k a _ na q1, DpAll_mono s _ _ q2⟩, RowsR_set s z k (List.nodup_cons.mp nd).2 e' r⟩
  | [], _ :: _, _, _, _, r => r.elim
  | _ :: _, [], _, _, _, r => r.elim
theorem ds_setII (i : Nat) {sp : Pos} {o : Expr} {fb fc : Env → R Cell} (pg : PG X (.Subscript o b sp) (gSub (tOp (rIx X.K) (tVar i) (teD (X.kw la) X.mg W fc)) (teD (X.kw la) X.mg W fb) rSetL)) (ha : PE X a (teD (X.kw la) X.mg W fa)) (hs : swapsWithSole [.Subscript o b sp] a pos.line X.env = pure false := by rfl) (hw : swappedStores [.Subscript o b sp] a X.env = pure none := by rfl)
    (h1 : (assignEach [.Subscript o b sp] X.env).map (·.2) = [assign (.Subscript o b sp) X.env] := by rfl) :
    PS X (.Assign [.Subscript o b sp] a pos) (tsD (X.kw la) X.mg W fun en => ((fa en).bind asD).into en fun d => own2At i en fun xss => ((fc en).bind cellI).into en fun k => match ixN xss.length k with
      | none => .no
      | some n => ((fb en).bind cellI).into en fun j => match setAt (xss.getD n []) j d with | some ys => .nx (en.set i (.own2 (xss.set n ys))) | none => .no) :=
  PS.imp (ps_asg ha pg hs hw h1) fun D σ H ⟨H0, O0, own, env, E, h⟩ => by
  refine ⟨H0, O0, own, env, E, ?_⟩
  cases q : fa env with
  | no => simp only [q, R.bind_no, R.into_no] at h; exact h
  | ex k fs => simp only [q, R.bind_ex, R.into_ex] at h; exact into_ex E h
  | ok c =>
    simp only [q, R.bind_ok] at h
    intro v H' os s fr nd r
    cases q3 : asD c with
    | no => simp only [q3, R.into_no] at h; exact h.elim
    | ex k fs => exact (asD_ex q3).elim
    | ok d =>
      simp only [q3, R.into_ok] at h
      have hd := dat_at E fr r q3
      obtain ⟨xss, q4, h⟩ := own2At_some h
      obtain ⟨v1, e1, al, as, rfl, eo, e2, e3⟩ := E.get q4 (fun z => by cases z)
      refine ⟨.ref al, e1, H0, O0, own, env, E.mono s, ?_⟩
      cases q5 : fc env with
      | no => simp only [q5, R.bind_no, R.into_no] at h; exact h
      | ex k fs => simp only [q5, R.bind_ex, R.into_ex] at h; exact into_ex (E.mono s) (OutH.mono (same_h s) h)
      | ok c2 =>
        simp only [q5, R.bind_ok] at h
        intro u H2 os2 s2 fr2 nd2 r2
        cases q6 : cellI c2 with
        | no => simp only [q6, R.into_no] at h; exact h.elim
        | ex k fs => exact (cellI_ex q6).elim
        | ok k =>
          simp only [q6, R.into_ok] at h
          have eu := cellI_ok q6 r2
          subst eu
          have s12 := s.trans s2
          cases q8 : ixN xss.length k with
          | none =>
            simp only [q8] at h
            exact h.elim
          | some n =>
            simp only [q8] at h
            have hn : n < xss.length := ixN_of q8
            have hg : xss[n]? = some (xss.getD n []) := by
              rw [List.getD_eq_getElem?_getD, List.getElem?_eq_getElem hn]
              rfl
            obtain ⟨bl, ws, e4, e5, e6⟩ := RowsR_get e3 hg
            refine .inl ⟨al, as.map V.ref, k, .ref bl, rfl, rfl, SqL.of (s12 _ _ e2), Option.bind_eq_some_iff.mpr ⟨n, by rw [List.length_map, RowsR_len e3]; exact q8, by rw [List.getElem?_map, e4]; rfl⟩, H0, O0, own, env, E.mono s12, ?_⟩
            cases q7 : fb env with
            | no => simp only [q7, R.bind_no, R.into_no] at h; exact h.elim
            | ex k fs =>
              simp only [q7, R.bind_ex, R.into_ex] at h
              exact into_ex (E.mono s12) (OutH.mono (same_h s12) h)
            | ok c3 =>
              simp only [q7, R.bind_ok] at h
              intro u3 H3 os3 s3 fr3 nd3 r3
              cases q9 : cellI c3 with
              | no => simp only [q9, R.into_no] at h; exact h.elim
              | ex k fs => exact (cellI_ex q9).elim
              | ok j =>
                simp only [q9, R.into_ok] at h
                have eu := cellI_ok q9 r3
                subst eu
                unfold setAt at h
                cases q10 : ixN (xss.getD n []).length j with
                | none =>
                  rw [q10] at h
                  exact h.elim
                | some jn =>
                  rw [q10] at h
                  have h : OutH (X.kw la) X.mg W H0 O0 H (tO O0 own) D (.nx (env.set i (.own2 (xss.set n ((xss.getD n []).set jn d))))) := h
                  have s123 := s12.trans s3
                  have mem : al ∈ own i := by rw [eo]; exact List.mem_cons_self
                  have memb : bl ∈ own i := by rw [eo]; exact List.mem_cons_of_mem _ (List.mem_of_getElem? e4)
                  have hi : i < env.length := (List.getElem?_eq_some_iff.mp q4).1
                  have nd0 := E.nd i
                  rw [eo] at nd0
                  have nab : al ≠ bl := fun z => (List.nodup_cons.mp nd0).1 (by rw [z]; exact List.mem_of_getElem? e4)
                  have E3 := E.mono s123
                  refine ⟨bl, ws, j, jn, rfl, rfl, s123 _ _ e5, by rw [DpAll_len e6]; exact q10, ?_⟩
                  have n1 : ∀ a o, H3 a = some o → ¬ tO O0 own a → upd H3 bl (.lst (ws.set jn v)) a = some o := fun a o w n => by
                    rw [upd_ne fun z => n (by rw [z]; exact .inr ⟨i, memb⟩)]
                    exact w
                  have eqo : ownSet own i (own i) = own := by
                    funext j
                    unfold ownSet
                    by_cases hj : j = i
                    · rw [if_pos hj, hj]
                    · rw [if_neg hj]
                  have sm : Same (hide H3 (tO O0 own)) (hide (upd H3 bl (.lst (ws.set jn v))) (tO O0 own)) := fun a o w => by
                    obtain ⟨w1, w2⟩ := hide_eq.mp w
                    exact hide_eq.mpr ⟨w1, n1 a o w2 w1⟩
                  have big := same_h (O := tO O0 own) s123
                  have w := E3.set (c := .own2 (xss.set n ((xss.getD n []).set jn d))) (x := some (.ref al)) (os := own i) (H' := upd H3 bl (.lst (ws.set jn v))) hi (fun a o w => by
                      rw [upd_ne fun z => by
                        rw [z, E.fresh i bl memb] at w
                        cases w]
                      exact E3.same a o w) n1 (fun j' a o hj ha w => by
                      rw [upd_ne fun z => E.dj i j' bl (Ne.symm hj) memb (by rw [← z]; exact ha)]
                      exact w) (fun a ha => by
                      by_cases z : a = bl
                      · rw [z]; exact ⟨_, upd_same⟩
                      · rw [upd_ne z]; exact E3.th i a ha) (fun a ha => E.fresh i a ha) (fun a ha => .inr ha) (E.nd i) (.inr ⟨.ref al, rfl, al, as, rfl, eo, by rw [upd_ne nab]; exact s123 _ _ e2, by
                        rw [eqo]
                        exact RowsR_set sm ⟨_, upd_same, DpAll_mono sm _ _ (DpAll_set (Dp_mono (same_h (s2.trans s3)) _ _ hd) jn (DpAll_mono big _ _ e6))⟩ (fun a o na w => by rw [upd_ne na]; exact w) (List.nodup_cons.mp nd0).2 e4 (RowsR_mono s123 (fun _ _ _ z => z) e3)⟩)
                  rw [eqo] at w
                  have e9 : σ.set i (some (.ref al)) = σ := set_self e1
                  rw [e9] at w
                  exact h _ _ own w (big.trans sm)
/-! ### a def's body -/
def startD (n : Nat) (ds : List D) : Env := ds.map Cell.d ++ List.replicate (n - ds.length) .un
def okP (c : Cell) : R Cell := if c.plain = true then .ok c else .no
theorem okP_ok {c c' : Cell} (h : okP c = .ok c') : c = c' ∧ c'.plain = true := by
  unfold okP at h
  split at h
  · rename_i p
    cases h
    exact ⟨rfl, p⟩
  · cases h
theorem okP_ex {c : Cell} {k : Str} {fs : List (Str × PyData)} (h : okP c = .ex k fs) : False := by
  unfold okP at h
  split at h <;> cases h
def endD (o : Out) : R Cell := match o with
  | .nx _ => .ok (.d .none)
  | .rt c => okP c
  | .re c _ => okP c
  | .ex k fs _ => .ex k fs
  | _ => .no
/-- a def of n parameters, N slots, its body g -/
def runD (N n : Nat) (g : Env → Out) (ds : List D) : R Cell := if ds.length = n then endD (g (startD N ds)) else .no
theorem runD_no {N n : Nat} {g : Env → Out} : ∀ ds : List D, ds.length ≠ n → runD N n g ds = .no := fun ds h => if_neg h
theorem endD_plain {o : Out} {c : Cell} (h : endD o = .ok c) : c.plain = true := by
  cases o with
  | nx e => cases h; rfl
  | rt c => exact (okP_ok h).2
  | re c e => exact (okP_ok h).2
  | _ => cases h
theorem runD_plain {N n : Nat} {g : Env → Out} : ∀ (ds : List D) (c : Cell), runD N n g ds = .ok c → c.plain = true := fun ds c h => by
  unfold runD at h
  split at h
  · exact endD_plain h
  · cases h
theorem start_ok {K : KW} {H : Hp} {O : Addr → Prop} {ds : List D} {vs : List V} {N : List Str} (hO : ∀ a, O a → ∃ o, H a = some o) (r : DpAll K (hide H O) vs ds) : EnvOk K H H O (fun _ => []) (L2.start N vs) (startD N.length ds) := by
  have hl := DpAll_len r
  have eO : tO O (fun _ => []) = O := by
    funext a
    refine propext ⟨fun z => ?_, fun z => .inl z⟩
    rcases z with z | ⟨_, z⟩
    · exact z
    · cases z
  refine ⟨Same.refl H, by unfold L2.start startD; simp [hl], fun i c e => ?_, fun i a h => (by cases h), fun i => List.nodup_nil, fun i j a _ h => (by cases h), fun i a h => (by cases h), hO⟩
  rw [eO]
  unfold startD at e
  unfold L2.start
  by_cases hi : i < ds.length
  · rw [List.getElem?_append_left (by simpa using hi), List.getElem?_map] at e
    rw [List.getElem?_append_left (by simpa [hl] using hi), List.getElem?_map]
    rw [List.getElem?_eq_getElem hi] at e
    cases e
    obtain ⟨v, e1, e2⟩ := DpAll_get r (List.getElem?_eq_getElem hi)
    exact .inr ⟨v, by rw [e1]; rfl, rfl, e2⟩
  · rw [List.getElem?_append_right (by simpa using hi)] at e
    rw [List.getElem?_replicate] at e
    split at e
    · cases e
      exact .inl rfl
    · cases e
theorem fnD {P : Program} {w : World} {mg : Str → Option Value} {base : Heap} {K : PySem.W.Frag} {x qual : Str} {fst : Stmt} {f : Addr} {fd : FuncData} {N ps : List Str} {k : Nat} {gb : Env → Out} (F : Fun K x qual fst f fd) (S : FnScope N ps (defScope fst))
    (hb : ∀ (cdv : Value) (A : Around) (outer : List PySem.Env) (s : Shared) (H : Hp) (E : XK), Room k (A.deeper (envOfC qual (defScope fst) s.heap.objs.size f cdv)) →
      PSs (cxOf (L2.CX P w) P w K mg base N qual (defScope fst) f cdv A outer s H E) (defBody fst) (tsD (kw0 K w mg) mg (fun cls d _ H => E cls d H) gb)) :
    FnOk P w K mg base (L2.CX P w) (k + 1) f fd ps (spD K w mg ps.length (runD N.length ps.length gb)) := by
  refine F.okX S (fun vs H Q E h => ?_) (fun cdv A outer s H vs Q E hr h => ⟨_, hb cdv A outer s H E hr, ?_⟩)
  · obtain ⟨O, ds, _, hl, r, _⟩ := h
    rw [DpAll_len r, hl]
  · obtain ⟨O, ds, hO, hl, r, h⟩ := h
    have eO : tO O (fun _ => []) = O := by
      funext a
      refine propext ⟨fun z => ?_, fun z => .inl z⟩
      rcases z with z | ⟨_, z⟩
      · exact z
      · cases z
    refine ⟨H, O, fun _ => [], _, start_ok hO r, ?_⟩
    unfold runD at h
    rw [if_pos hl] at h
    cases q : gb (startD N.length ds) with
    | no => rw [q] at h; exact h
    | bk e => rw [q] at h; exact h.elim
    | ct e => rw [q] at h; exact h.elim
    | rt c =>
      rw [q] at h
      have h : match okP c with | .no => False | .ok c => ∀ v H' os, Same H H' → (∀ a ∈ os, H a = none) → os.Nodup → CellR (kw0 K w mg) H' (fun a => O a ∨ a ∈ os) os c v → Q v H' | .ex k fs => ∀ H' cls d, Same H H' → ExcR K mg (hide H' O) cls d k fs → E cls d H' := h
      unfold okP at h
      split at h
      · exact h.elim
      · rename_i c' z
        split at z
        · cases z
          exact fun v H' os s fr nd r => h v H' os s fr nd r
        · cases z
      · rename_i z
        split at z <;> cases z
    | re c e =>
      rw [q] at h
      have h : match okP c with | .no => False | .ok c => ∀ v H' os, Same H H' → (∀ a ∈ os, H a = none) → os.Nodup → CellR (kw0 K w mg) H' (fun a => O a ∨ a ∈ os) os c v → Q v H' | .ex k fs => ∀ H' cls d, Same H H' → ExcR K mg (hide H' O) cls d k fs → E cls d H' := h
      unfold okP at h
      split at h
      · exact h.elim
      · rename_i c' z
        split at z
        · cases z
          exact fun v σ' H' own' n os hn so nd E' r => h v H' os E'.same (fun a ha => E'.fresh n a (so a ha)) nd (CellR_mono (Same.refl H') (fun a o _ z => by
            rcases z with z | z
            · exact .inl z
            · exact .inr ⟨n, so a z⟩) r)
        · cases z
      · rename_i z
        split at z <;> cases z
    | nx e =>
      rw [q] at h
      exact fun σ' H' own' E' s => h .non H' [] E'.same (fun a ha => by cases ha) List.nodup_nil ⟨rfl, .non⟩
    | ex k fs e =>
      rw [q] at h
      intro σ' H' own' cls d E' s w
      refine h H' cls d E'.same (ExcR_mono (hide_same (Same.refl H') fun a o _ z => .inl z) w)
end
end DL
/-! ## DL, part 9: own exceptions, the law's end -/
namespace DL
open PySem PySem.Spec PyProof.Rows L2
/-! ### an own exception class with one field -/
/-- what the top has written of the class named x: __init__(self, f) that stores f -/
structure Exc1 (K : PySem.W.Frag) (mg : Str → Option Value) (x f : Str) (st : Stmt) : Prop where
  ex : ∃ (C fI : Addr) (fd : FuncData) (q : Str), mg x = some (.ref C) ∧ OexC K C ∧ XfC K C ∧ PySem.W.findIn K (.ref C) f = some none ∧ PySem.W.findIn K (.ref C) "__init__" = some (some (.ref fI)) ∧ PySem.W.typeIn K (.ref fI) = some (.type "function") ∧
    Fun K "__init__" q st fI fd ∧ Binds K fd ["self", f] [] ∧ PySem.W.exmOne K (.ref C) (.ref C) = some true
  sc : FnScope ["self", f] ["self", f] (defScope st)
  body : ∃ q1 q2 q3 q4, defBody st = [.Assign [.Attribute (.Name "self" q1) f q2] (.Name f q3) q4]
  lf : (defScope st).names.lookup f = some .local
  ls : (defScope st).names.lookup ("self" : Str) = some .local
  nd : (f == ("__debug__" : Str)) = false ∧ (f == ("__classdict__" : Str)) = false
def spIni (K : PySem.W.Frag) (f : Str) : Sp := fun vs H Q _ => ∃ (a C : Addr) (y : V), vs = [.ref a, y] ∧ OexC K C ∧ PySem.W.findIn K (.ref C) f = some none ∧ H a = some (exo a C none) ∧ ∀ dx, H dx = none → dx ≠ a → Q .non (upd (upd H dx (exd dx [(f, y)])) a (exo a C (some dx)))
section
variable {P : Program} {w : World} {K : PySem.W.Frag} {mg : Str → Option Value} {base : Heap}
theorem ini_ok {f q : Str} {st : Stmt} {fI : Addr} {fd : FuncData} (F : Fun K "__init__" q st fI fd) (S : FnScope ["self", f] ["self", f] (defScope st)) (hb : ∃ q1 q2 q3 q4, defBody st = [.Assign [.Attribute (.Name "self" q1) f q2] (.Name f q3) q4]) (lf : (defScope st).names.lookup f = some .local) (ls : (defScope st).names.lookup ("self" : Str) = some .local)
    (nd : (f == ("__debug__" : Str)) = false ∧ (f == ("__classdict__" : Str)) = false) : FnOk P w K mg base (L2.CX P w) 1 fI fd ["self", f] (spIni K f) := by
  refine F.okX S (fun vs H Q E h => ?_) (fun cdv A outer s H vs Q E hr h => ?_)
  · obtain ⟨a, C, y, rfl, _⟩ := h
    rfl
  · obtain ⟨a, C, y, rfl, T, hno, ea, h⟩ := h
    obtain ⟨q1, q2, q3, q4, eb⟩ := hb
    rw [eb]
    refine ⟨_, pss_one (ps_ost (pe_var (i := 0) rfl (.inl ls)) (pe_var (i := 1) rfl (.inl lf) nd.1 nd.2)), ?_⟩
    exact ⟨y, rfl, .ref a, rfl, a, C, rfl, T, hno, .inl ⟨ea, fun dx n ne => h dx n ne⟩⟩
variable {X : Cx} {la : Nat → Addr} {W : WX} {a : Expr} {fa : Env → R Cell} {pos p : Pos} {x f : Str} {st : Stmt}
/-- raise X(e) -/
theorem ds_raise1 (T : Exc1 (X.kw la) X.mg x f st) (hr : Room 2 X.A) (tk : Takes X W) (hc : X.calm = true) (ha : PE X a (teD (X.kw la) X.mg W fa)) (hg : Gl X x := by rfl) (hdb : (x == ("__debug__" : Str)) = false := by decide)
    (he : starEach (a :: []) X.env = (false, eval a X.env) :: starEach [] X.env := by rfl) (hpl : (backTo p (starEach [] X.env)).any (·.1) = false := by rfl) {np : Pos} :
    PS X (.Raise (some (.Call (.Name x np) [a] [] p)) none pos) (tsD (X.kw la) X.mg W fun en => ((fa en).bind asD).into en fun d => .ex x [(f, d)] en) := by
  obtain ⟨C, fI, fd, q, hm, TO, TX, hno, iC, tI, F, bI, te⟩ := T.ex
  refine PS.imp (ps_raise hc tk (pmk_oex (dvs := []) TO iC tI (ini_ok F T.sc T.body T.lf T.ls T.nd) hr bI .nil passL hg hm (pa_cons ha pa_nil he) hdb he hpl)) fun D σ H ⟨H0, O0, own, env, E, h⟩ => ?_
  refine ⟨H0, O0, own, env, E, ?_⟩
  cases q2 : fa env with
  | no => simp only [q2, R.bind_no, R.into_no] at h; exact h
  | ex k fs => simp only [q2, R.bind_ex, R.into_ex] at h; exact into_ex E h
  | ok c =>
    simp only [q2, R.bind_ok] at h
    intro v H1 os s fr nd r
    cases q3 : asD c with
    | no => simp only [q3, R.into_no] at h; exact h.elim
    | ex k fs => exact (asD_ex q3).elim
    | ok d =>
      simp only [q3, R.into_ok] at h
      have hd := dat_at E fr r q3
      refine ⟨(by show 1 ≤ 1000; decide), fun al hal => ?_⟩
      refine ⟨al, C, v, rfl, TO, hno, upd_same, fun dx hdx ne => ⟨rfl, dx, [(f, v)], upd_same, ?_, ?_, ?_⟩⟩
      · rw [upd_ne ne]
        exact upd_same
      · rw [upd_ne ne] at hdx
        exact hdx
      · have hdx1 : H1 dx = none := by
          rw [upd_ne ne] at hdx
          exact hdx
        have sm : Same H1 (upd (del (upd (upd (upd H1 al (exo al C none)) dx (exd dx [(f, v)])) al (exo al C (some dx))) al) dx (.xd [(f, v)])) := fun b o e => by
          have nb : b ≠ al := ne_of_none e hal
          have nx : b ≠ dx := ne_of_none e hdx1
          rw [upd_ne nx, del_ne nb, upd_ne nb, upd_ne nx, upd_ne nb]
          exact e
        refine h σ _ own (.ref C) (some dx) (E.mono (s.trans sm)) (same_h (s.trans sm)) ⟨⟨C, hm, rfl⟩, .inr ⟨dx, [(f, v)], rfl, hide_eq.mpr ⟨fun z => ?_, upd_same⟩, rfl, Dp_mono (same_h sm) _ _ hd, trivial⟩⟩
        obtain ⟨o, e⟩ := (E.mono s).thereO dx z
        rw [hdx1] at e
        cases e
/-- try: body / except X as e: return e.f -/
def tryF (i : Nat) (x f : Str) (o : Out) : Out := match o with
  | .ex k fs e => if k = x ∧ i < e.length then (match fs with
      | [(g, d)] => if g = f then .rt (.d d) else .no
      | _ => .no) else .no
  | .rt c => .rt c
  | .re c e => .re c e
  | .nx e => .nx e
  | _ => .no
theorem ds_tryF {i : Nat} {n : Str} {body : List Stmt} {g : Env → Out} {np np2 ap hp2 p1 p2 : Pos} (T : Exc1 (X.kw la) X.mg x f st) (hN : X.N.Nodup)
    (hb : ∀ (W : WX) (pn : List (Addr × Obj)) (xe : Value → Shared → Prop), Takes (X.tr pn xe) W → PassesOwn (model X.prog X.w) X.A X.env xe → PSs (X.tr pn xe) body (tsD (X.kw la) X.mg W g))
    (hs : X.stack = X.env :: X.outer := by rfl) (hf : X.env.frame = some X.env.locals := by rfl) (hi : X.N[i]? = some n := by rfl) (hln : X.env.kindOf n = some .local := by rfl) (hg : Gl X x := by rfl) (hdb : (x == ("__debug__" : Str)) = false := by decide) (hdn : (n == ("__debug__" : Str)) = false := by decide) (hcn : (n == ("__classdict__" : Str)) = false := by decide)
    (hat : ∀ al pn, attributeBase (.Name n np2) f (X.suite al pn).env (eval (.Name n np2) (X.suite al pn).env) = eval (.Name n np2) (X.suite al pn).env := by intros; rfl) :
    PS X (.Try body [.ExceptHandler (some (.Name x np)) (some n) [.Return (some (.Attribute (.Name n np2) f ap)) p1] hp2] [] [] p2) (tsD (X.kw la) X.mg W fun en => tryF i x f (g en)) := by
  obtain ⟨C, fI, fd, q, hm, TO, TX, hno, iC, tI, F, bI, te⟩ := T.ex
  refine PS.imp (ps_try_as (c := .ref C) (i := i) (Wout := fun _ _ _ _ => False) hs hf hN hi hln ⟨hg, hdb, .inl hm⟩ takes0 hb (fun al oe cls d pn hz hd => pss_one (ps_ret (pe_xf (C := C) TX hno hz hd (pe_var (i := i) hi (.inl hln) hdn hcn) (hat al ((al, oe) :: pn)))))) fun D σ H ⟨H0, O0, own, env, E, h⟩ => ?_
  refine ⟨H0, O0, own, env, E, ?_⟩
  cases q2 : g env with
  | no => simp only [q2, tryF] at h; exact h
  | bk e => simp only [q2, tryF] at h; exact h.elim
  | ct e => simp only [q2, tryF] at h; exact h.elim
  | rt c => simp only [q2, tryF] at h; exact h
  | re c e => simp only [q2, tryF] at h; exact h
  | nx e => simp only [q2, tryF] at h; exact h
  | ex k fs e =>
    simp only [q2, tryF] at h
    split at h
    · rename_i ek
      obtain ⟨ek, hil⟩ := ek
      subst ek
      split at h
      · rename_i g' d'
        split at h
        · rename_i eg
          subst eg
          intro σ' H' own' cls dd E' s r
          obtain ⟨⟨C', hC, rfl⟩, r2⟩ := r
          have eC : C' = C := by
            rw [hm] at hC
            cases hC
            rfl
          subst eC
          rcases r2 with ⟨z, _⟩ | ⟨d2, vs, rfl, ed, r3⟩
          · cases z
          · cases vs with
            | nil => exact r3.elim
            | cons p0 vs =>
              cases vs with
              | cons _ _ => exact r3.2.2.elim
              | nil =>
                obtain ⟨e1, e2, _⟩ := r3
                obtain ⟨g1, v1⟩ := p0
                have e1 : g1 = g' := e1
                subst e1
                have hl : i < σ'.length := by
                  rw [E'.len]
                  exact hil
                refine ⟨true, te, fun _ al hal => ⟨.ref al, by rw [List.getElem?_set_self hl], rfl, rfl, d2, [(g1, v1)], v1, rfl, (hide_eq.mp ed).2, by simp [List.lookup], ?_⟩, fun z => by cases z⟩
                exact h v1 H' [] E'.same (fun a ha => by cases ha) List.nodup_nil ⟨rfl, Dp_mono (hide_same (Same.refl H') fun a o _ z => .inl (by
                  rcases z with z | z
                  · exact z
                  · cases z)) _ _ e2⟩
        · exact h.elim
      · exact h.elim
    · exact h.elim
end
/-- an exception of the class is caught by the class's own name -/
theorem exm_same {K : PySem.W.Frag} {C : Addr} (b : PySem.W.subIn K (.ref C) (.type "BaseException") = some true) (i : PySem.W.isClsIn K C = true) (t : PySem.W.typeIn K (.ref C) = some (.type "type")) (z : PySem.W.subIn K (.ref C) (.ref C) = some true) : PySem.W.exmOne K (.ref C) (.ref C) = some true := by
  have i' : (PySem.W.clsIn K C).isSome = true := i
  unfold PySem.W.exmOne PySem.W.kitCls
  simp [b, i', t, z]
/-! ### the law's end -/
/-- the law's promise: of a script of at most 63 ints it says True -/
def spLaw (K : PySem.W.Frag) : Sp := fun vs H Q _ => ∃ (a : Addr) (ns : List Int), vs = [.ref a] ∧ SqL K H a (ns.map V.int) ∧ ns.length ≤ 63 ∧ ∀ H', Q (.bl true) H'
theorem ints_dp {K : PySem.W.Frag} {H : Hp} : ∀ ns : List Int, DpAll K H (ns.map V.int) (ns.map PyData.int)
  | [] => .nil
  | n :: ns => .cons (.int n) (ints_dp ns)
theorem law_end {P : Program} {w : World} {K : PySem.W.Frag} {mg : Str → Option Value} {base : Heap} {k : Nat} {f : Addr} {fd : FuncData} {m : List D → R Cell} (F : FnOk P w K mg base (L2.CX P w) k f fd ["script"] (spD K w mg 1 m)) (h : ∀ ns : List Int, ns.length ≤ 63 → m [.list (ns.map PyData.int)] = .ok (.d (.bool true))) :
    FnOk P w K mg base (L2.CX P w) k f fd ["script"] (spLaw K) := F.imp fun vs H Q E ⟨a, ns, e, hs, hl, q⟩ => by
  subst e
  refine ⟨fun _ => False, [.list (ns.map PyData.int)], fun _ z => z.elim, rfl, .cons (.lst (SqL_mono (hide_no fun _ z => z) hs) (ints_dp ns)) .nil, ?_⟩
  rw [h ns hl]
  intro v H' os _ _ _ r
  rw [Dp_bool r.2]
  exact q H'
theorem cx_never {P : Program} {w : World} {H : Hp} {s s' : Shared} {e : Value} (h : L2.CX P w [] H s (fun _ _ _ => False) e s') : False := by
  obtain ⟨_, _, _, _, _, _, _, _, _, _, _, _, z⟩ := h
  exact z
end DL
/-! ## DL, part 12: what is lent for changing -/
namespace DL
open PySem PySem.Spec PyProof.Rows L2
section
variable {K : KW} {H0 H H' : Hp} {O0 : Addr → Prop} {own : Nat → List Addr} {σ : L2.St} {env : Env}
theorem ownSet_self {i : Nat} : ownSet own i (own i) = own := by
  funext j
  unfold ownSet
  by_cases hj : j = i
  · rw [if_pos hj, hj]
  · rw [if_neg hj]
/-- the object at al of slot i has changed: the slot's new cell c -/
theorem own_upd2 {i : Nat} {al : Addr} {c : Cell} (E : EnvOk K H0 H O0 own σ env) (hi : i < env.length) (e1 : σ[i]? = some (some (.ref al))) (eo : own i = [al]) (k : ∀ b o, b ≠ al → H b = some o → H' b = some o) (te : ∃ o, H' al = some o)
    (r : Same (hide H (tO O0 own)) (hide H' (tO O0 own)) → SlotR K H' (tO O0 own) (own i) c (some (some (.ref al)))) : EnvOk K H0 H' O0 own σ (env.set i c) ∧ Same (hide H (tO O0 own)) (hide H' (tO O0 own)) := by
  have mem : al ∈ own i := by rw [eo]; exact List.mem_cons_self
  have h0 : Same H0 H' := fun a o e => k a o (fun z => by
    rw [z, E.fresh i al mem] at e
    cases e) (E.same a o e)
  have n1 : ∀ a o, H a = some o → ¬ tO O0 own a → H' a = some o := fun a o e n => k a o (fun z => n (by rw [z]; exact .inr ⟨i, mem⟩)) e
  have sm : Same (hide H (tO O0 own)) (hide H' (tO O0 own)) := fun a o e => by
    obtain ⟨n, e⟩ := hide_eq.mp e
    exact hide_eq.mpr ⟨n, n1 a o e n⟩
  have w := E.set (c := c) (x := some (.ref al)) (os := own i) (H' := H') hi h0 n1 (fun j a o hj ha e => k a o (fun z => E.dj i j al (Ne.symm hj) mem (by rw [← z]; exact ha)) e) (fun a ha => by
      rw [eo] at ha
      rw [List.mem_singleton.mp ha]
      exact te) (fun a ha => E.fresh i a ha) (fun a ha => .inr ha) (E.nd i) (by
        rw [ownSet_self]
        exact r sm)
  rw [ownSet_self] at w
  have e3 : σ.set i (some (.ref al)) = σ := set_self e1
  rw [e3] at w
  exact ⟨w, sm⟩
/-- a lent list in slot i -/
def parAt (i : Nat) (en : Env) (f : Nat → List D → Out) : Out := match en[i]? with
  | some (.par k (.own xs)) => f k xs
  | _ => .no
theorem parAt_some {mg : Str → Option Value} {W : WX} {O : Addr → Prop} {i : Nat} {en : Env} {f : Nat → List D → Out} {D : Ends} (h : OutH K mg W H0 O0 H O D (parAt i en f)) : ∃ a xs, en[i]? = some (.par a (.own xs)) ∧ OutH K mg W H0 O0 H O D (f a xs) := by
  unfold parAt at h
  split at h
  · rename_i a xs e
    exact ⟨a, xs, e, h⟩
  · exact h.elim
theorem par_at {i k : Nat} {xs : List D} (E : EnvOk K H0 H O0 own σ env) (q : env[i]? = some (.par k (.own xs))) : ∃ vs, σ[i]? = some (some (.ref (K.la k))) ∧ own i = [K.la k] ∧ H (K.la k) = some (.lst vs) ∧ DpAll K (hide H (tO O0 own)) vs xs := by
  obtain ⟨v, e1, r⟩ := E.get q (fun z => by cases z)
  obtain ⟨r1, a, vs, e2, eo, e3, e4⟩ := CellR_par r
  subst r1
  have ea : K.la k = a := V.ref.inj e2
  rw [← ea] at eo e3
  exact ⟨vs, e1, eo, e3, e4⟩
theorem CellR_parI {k : Nat} {O : Addr → Prop} {os : List Addr} {c : Cell} (r : CellR K H O os c (.ref (K.la k))) : CellR K H O os (.par k c) (.ref (K.la k)) := by
  unfold CellR
  exact ⟨rfl, r⟩
end
section
variable {X : Cx} {la : Nat → Addr} {W : WX} {tg e l a b c : Expr} {fa fb fc : Env → R Cell} {ga : Env → R (List D)} {ta : Env → R Bool} {g g1 g2 : Env → Out} {pos p p' : Pos} {st : Stmt} {sts sts2 : List Stmt}
/-- xs.append(e), xs lent in slot i -/
theorem ds_appP (i : Nat) {x : Str} {np ap : Pos} (pe : PE X (.Call (.Attribute (.Name x np) "append" ap) [a] [] pos) (tBM X.K "list" rAppend (tVar i) (tCons (teD (X.kw la) X.mg W fa) tNil)))
    (hs : swapsWith (.Call (.Attribute (.Name x np) "append" ap) [a] [] pos) none p.line X.env = pure false := by rfl) :
    PS X (.Expr (.Call (.Attribute (.Name x np) "append" ap) [a] [] pos) p) (tsD (X.kw la) X.mg W fun en => parAt i en fun al xs => ((fa en).bind asD).into en fun d => if xs.length < 16777216 then .nx (en.set i (.par al (.own (xs ++ [d])))) else .no) := PS.imp (ps_expr pe hs) fun D σ H ⟨H0, O0, own, env, E, h⟩ => by
  obtain ⟨al, xs, q, h⟩ := parAt_some h
  obtain ⟨vs, e1, eo, e2, e3⟩ := par_at E q
  refine ⟨.ref _, e1, .inl ⟨rfl, vs, SqL.of e2⟩, H0, O0, own, env, E, ?_⟩
  cases q2 : fa env with
  | no => simp only [q2, R.bind_no, R.into_no] at h; exact h
  | ex k fs => simp only [q2, R.bind_ex, R.into_ex] at h; exact into_ex E h
  | ok c =>
    simp only [q2, R.bind_ok] at h
    intro v H' os s fr nd r
    cases q3 : asD c with
    | no => simp only [q3, R.into_no] at h; exact h.elim
    | ex k fs => exact (asD_ex q3).elim
    | ok d =>
      simp only [q3, R.into_ok] at h
      split at h
      · rename_i hl
        have hd := dat_at E fr r q3
        obtain ⟨E', s'⟩ := own_upd2 (E.mono s) (H' := L2.upd H' ((X.kw la).la al) (.lst (vs ++ [v]))) (c := .par al (.own (xs ++ [d]))) (List.getElem?_eq_some_iff.mp q).1 e1 eo (fun b o n e => by rw [upd_ne n]; exact e) ⟨_, upd_same⟩ (fun sm => .inr ⟨.ref ((X.kw la).la al), rfl, CellR_parI ⟨_, _, rfl, eo, upd_same, DpAll_mono sm _ _ (DpAll_append (DpAll_mono (same_h s) _ _ e3) (.cons hd .nil))⟩⟩)
        exact ⟨_, vs, v, rfl, rfl, s _ _ e2, by rw [DpAll_len e3, sizeLine_eq]; exact hl, h _ _ own E' ((same_h s).trans s')⟩
      · exact h.elim
/-- xs[k] = e, xs lent in slot i -/
theorem ds_setIP (i : Nat) {sp : Pos} {o : Expr} (pg : PG X (.Subscript o b sp) (gSub (tVar i) (teD (X.kw la) X.mg W fb) rSetL)) (ha : PE X a (teD (X.kw la) X.mg W fa)) (hs : swapsWithSole [.Subscript o b sp] a pos.line X.env = pure false := by rfl) (hw : swappedStores [.Subscript o b sp] a X.env = pure none := by rfl)
    (h1 : (assignEach [.Subscript o b sp] X.env).map (·.2) = [assign (.Subscript o b sp) X.env] := by rfl) :
    PS X (.Assign [.Subscript o b sp] a pos) (tsD (X.kw la) X.mg W fun en => ((fa en).bind asD).into en fun d => parAt i en fun al xs => ((fb en).bind cellI).into en fun k => match setAt xs k d with | some ys => .nx (en.set i (.par al (.own ys))) | none => .no) :=
  PS.imp (ps_asg ha pg hs hw h1) fun D σ H ⟨H0, O0, own, env, E, h⟩ => by
  refine ⟨H0, O0, own, env, E, ?_⟩
  cases q : fa env with
  | no => simp only [q, R.bind_no, R.into_no] at h; exact h
  | ex k fs => simp only [q, R.bind_ex, R.into_ex] at h; exact into_ex E h
  | ok c =>
    simp only [q, R.bind_ok] at h
    intro v H' os s fr nd r
    cases q3 : asD c with
    | no => simp only [q3, R.into_no] at h; exact h.elim
    | ex k fs => exact (asD_ex q3).elim
    | ok d =>
      simp only [q3, R.into_ok] at h
      have hd := dat_at E fr r q3
      obtain ⟨al, xs, q4, h⟩ := parAt_some h
      obtain ⟨vs, e1, eo, e2, e3⟩ := par_at E q4
      refine ⟨.ref _, e1, H0, O0, own, env, E.mono s, ?_⟩
      cases q2 : fb env with
      | no => simp only [q2, R.bind_no, R.into_no] at h; exact h
      | ex k fs => simp only [q2, R.bind_ex, R.into_ex] at h; exact into_ex (E.mono s) (OutH.mono (same_h s) h)
      | ok c2 =>
        simp only [q2, R.bind_ok] at h
        intro u H2 os2 s2 fr2 nd2 r2
        cases q5 : cellI c2 with
        | no => simp only [q5, R.into_no] at h; exact h.elim
        | ex k fs => exact (cellI_ex q5).elim
        | ok k =>
          simp only [q5, R.into_ok] at h
          have eu := cellI_ok q5 r2
          subst eu
          unfold setAt at h
          cases q6 : ixN xs.length k with
          | none =>
            rw [q6] at h
            exact h.elim
          | some j =>
            rw [q6] at h
            have h : OutH (X.kw la) X.mg W H0 O0 H (tO O0 own) D (.nx (env.set i (.par al (.own (xs.set j d))))) := h
            have ss := s.trans s2
            obtain ⟨E', s'⟩ := own_upd2 (E.mono ss) (H' := L2.upd H2 ((X.kw la).la al) (.lst (vs.set j v))) (c := .par al (.own (xs.set j d))) (List.getElem?_eq_some_iff.mp q4).1 e1 eo (fun b o n e => by rw [upd_ne n]; exact e) ⟨_, upd_same⟩ (fun sm => .inr ⟨.ref ((X.kw la).la al), rfl, CellR_parI ⟨_, _, rfl, eo, upd_same, DpAll_mono sm _ _ (DpAll_set (Dp_mono (same_h s2) _ _ hd) j (DpAll_mono (same_h ss) _ _ e3))⟩⟩)
            exact ⟨_, vs, k, j, rfl, rfl, ss _ _ e2, by rw [DpAll_len e3]; exact q6, h _ _ own E' ((same_h ss).trans s')⟩
end
/-! ### calls that change what is lent -/
/-- what may be lent -/
def lendC : Cell → Bool
  | .own _ => true
  | .own2 _ => true
  | .dic _ => true
  | .lst cs => plainAll cs
  | .ins _ _ cs => plainAll cs
  | _ => false
theorem lendC_plain {c : Cell} (h : lendC c = true) : c.plain = true := by
  cases c with
  | lst cs =>
    unfold Cell.plain
    exact h
  | ins a b cs =>
    unfold Cell.plain
    exact h
  | own _ => rfl
  | own2 _ => rfl
  | dic _ => rfl
  | _ => cases h
theorem lendC_nd {c : Cell} (h : lendC c = true) : ∀ x, c ≠ .d x := fun x e => by
  rw [e] at h
  cases h
/-- the arguments fit: lent ones where ls says so, data elsewhere -/
def fits : List Bool → List Cell → Bool
  | [], [] => true
  | b :: ls, c :: cs => (if b = true then lendC c else (match c with | .d _ => true | _ => false)) && fits ls cs
  | _, _ => false
theorem fits_len : ∀ {ls : List Bool} {cs : List Cell}, fits ls cs = true → ls.length = cs.length
  | [], [], _ => rfl
  | b :: ls, c :: cs, h => by
    unfold fits at h
    rw [Bool.and_eq_true] at h
    rw [List.length_cons, List.length_cons, fits_len h.2]
  | [], _ :: _, h => by cases h
  | _ :: _, [], h => by cases h
/-- arguments' values -/
def AllR (K : KW) (H : Hp) (O : Addr → Prop) : List (List Addr) → List Cell → List V → Prop
  | [], [], [] => True
  | os :: oss, c :: cs, v :: vs => CellR K H O os c v ∧ AllR K H O oss cs vs
  | _, _, _ => False
/-- what is lent, given back -/
def FinR (K : KW) (H : Hp) (O : Addr → Prop) : List Bool → List (List Addr) → List Cell → List V → Prop
  | [], [], [], [] => True
  | b :: ls, os :: oss, c :: cs, v :: vs => (if b = true then lendC c = true ∧ CellR K H O os c v else os = []) ∧ FinR K H O ls oss cs vs
  | _, _, _, _ => False
theorem AllR_len {K : KW} {H : Hp} {O : Addr → Prop} : ∀ {oss : List (List Addr)} {cs : List Cell} {vs : List V}, AllR K H O oss cs vs → oss.length = cs.length ∧ vs.length = cs.length
  | [], [], [], _ => ⟨rfl, rfl⟩
  | os :: oss, c :: cs, v :: vs, ⟨_, r⟩ => by
    obtain ⟨h1, h2⟩ := AllR_len r
    exact ⟨by rw [List.length_cons, List.length_cons, h1], by rw [List.length_cons, List.length_cons, h2]⟩
  | [], [], _ :: _, r => r.elim
  | [], _ :: _, _, r => r.elim
  | _ :: _, [], _, r => r.elim
  | _ :: _, _ :: _, [], r => r.elim
theorem AllR_get {K : KW} {H : Hp} {O : Addr → Prop} : ∀ {oss : List (List Addr)} {cs : List Cell} {vs : List V} {i : Nat} {c : Cell}, AllR K H O oss cs vs → cs[i]? = some c → ∃ v, vs[i]? = some v ∧ CellR K H O (oss.getD i []) c v
  | [], [], [], _, _, _, e => by simp at e
  | os :: oss, c :: cs, v :: vs, 0, c', ⟨q, _⟩, e => by
    simp at e
    subst e
    exact ⟨v, rfl, q⟩
  | os :: oss, c :: cs, v :: vs, i + 1, c', ⟨_, r⟩, e => by
    obtain ⟨v', e1, q⟩ := AllR_get (i := i) r (by simpa using e)
    exact ⟨v', by simpa using e1, by simpa using q⟩
  | [], [], _ :: _, _, _, r, _ => r.elim
  | [], _ :: _, _, _, _, r, _ => r.elim
  | _ :: _, [], _, _, _, r, _ => r.elim
  | _ :: _, _ :: _, [], _, _, r, _ => r.elim
/-- a def of n arguments that changes the lent ones -/
def spL (K : PySem.W.Frag) (w : World) (mg : Str → Option Value) (ls : List Bool) (m : List Cell → R (Cell × List Cell)) : Sp := fun vs H Q _ => ∃ (O : Addr → Prop) (cs : List Cell) (oss : List (List Addr)),
  (∀ b, O b → ∃ o, H b = some o) ∧ fits ls cs = true ∧ AllR (kw0 K w mg) H O oss cs vs ∧ oss.flatten.Nodup ∧ (∀ a ∈ oss.flatten, O a) ∧
  match m cs with
  | .ok (c, fs) => ∀ v H' os oss', (∀ b o, b ∉ oss.flatten → H b = some o → H' b = some o) → (∀ a ∈ oss'.flatten, a ∈ oss.flatten ∨ H a = none) → (∀ a ∈ os, a ∈ oss.flatten ∨ H a = none) → (os ++ oss'.flatten).Nodup →
      FinR (kw0 K w mg) H' (fun a => ((O a ∧ a ∉ oss.flatten) ∨ a ∈ oss'.flatten) ∨ a ∈ os) ls oss' fs vs → CellR (kw0 K w mg) H' (fun a => ((O a ∧ a ∉ oss.flatten) ∨ a ∈ oss'.flatten) ∨ a ∈ os) os c v → Q v H'
  | _ => False
/-! ### such a def's body -/
/-- the parameters' cells -/
def parsFrom : Nat → List Bool → List Cell → List Cell
  | i, b :: ls, c :: cs => (if b = true then .par i c else c) :: parsFrom (i + 1) ls cs
  | _, _, _ => []
def startL (N : Nat) (ls : List Bool) (cs : List Cell) : Env := parsFrom 0 ls cs ++ List.replicate (N - cs.length) .un
/-- what the lent slots hold in the end -/
def partsOf : Nat → List Bool → Env → Option (List Cell)
  | _, [], _ => some []
  | i, b :: ls, e => match e with
    | [] => none
    | c :: e => match partsOf (i + 1) ls e with
      | none => none
      | some cs => if b = true then (match c with
          | .par k c' => if k = i ∧ lendC c' = true then some (c' :: cs) else none
          | _ => none) else some (.un :: cs)
def outsL (ls : List Bool) (c : Cell) (e : Env) : R (Cell × List Cell) := if c.plain = true then (match partsOf 0 ls e with
  | some cs => .ok (c, cs)
  | none => .no) else .no
def endL (ls : List Bool) (o : Out) : R (Cell × List Cell) := match o with
  | .nx e => outsL ls (.d .none) e
  | .re c e => outsL ls c e
  | _ => .no
def runL (N : Nat) (ls : List Bool) (g : Env → Out) (cs : List Cell) : R (Cell × List Cell) := if fits ls cs = true then endL ls (g (startL N ls cs)) else .no
theorem runL_plain {N : Nat} {ls : List Bool} {g : Env → Out} : ∀ (cs : List Cell) (c : Cell) (fs : List Cell), runL N ls g cs = .ok (c, fs) → c.plain = true := fun cs c fs h => by
  have out : ∀ c' e, outsL ls c' e = .ok (c, fs) → c.plain = true := fun c' e h => by
    unfold outsL at h
    split at h
    · rename_i hp
      split at h
      · cases h
        exact hp
      · cases h
    · cases h
  unfold runL at h
  split at h
  · unfold endL at h
    split at h
    · exact out _ _ h
    · exact out _ _ h
    · cases h
  · cases h
theorem pars_len : ∀ {i : Nat} {ls : List Bool} {cs : List Cell}, ls.length = cs.length → (parsFrom i ls cs).length = cs.length
  | _, [], [], _ => rfl
  | i, b :: ls, c :: cs, h => by
    show (parsFrom (i + 1) ls cs).length + 1 = cs.length + 1
    rw [pars_len (by simpa using h)]
  | _, [], _ :: _, h => by cases h
  | _, _ :: _, [], h => by cases h
theorem pars_get : ∀ {i : Nat} {ls : List Bool} {cs : List Cell} {j : Nat} {c : Cell}, (parsFrom i ls cs)[j]? = some c → ∃ b c', ls[j]? = some b ∧ cs[j]? = some c' ∧ c = (if b = true then .par (i + j) c' else c')
  | i, b :: ls, c :: cs, 0, c', e => by
    cases e
    exact ⟨b, c, rfl, rfl, rfl⟩
  | i, b :: ls, c :: cs, j + 1, c', e => by
    obtain ⟨b', c2, e1, e2, e3⟩ := pars_get (i := i + 1) (ls := ls) (cs := cs) (j := j) (c := c') (by simpa [parsFrom] using e)
    exact ⟨b', c2, by simpa using e1, by simpa using e2, by rw [e3, show i + 1 + j = i + (j + 1) by omega]⟩
  | _, [], _, _, _, e => by simp [parsFrom] at e
  | _, _ :: _, [], _, _, e => by simp [parsFrom] at e
theorem fits_get : ∀ {ls : List Bool} {cs : List Cell} {j : Nat} {b : Bool} {c : Cell}, fits ls cs = true → ls[j]? = some b → cs[j]? = some c → (b = true ∧ lendC c = true) ∨ (b = false ∧ ∃ x, c = .d x)
  | b :: ls, c :: cs, 0, b', c', h, e1, e2 => by
    simp at e1 e2
    subst e1 e2
    unfold fits at h
    rw [Bool.and_eq_true] at h
    cases b with
    | true => exact .inl ⟨rfl, by simpa using h.1⟩
    | false =>
      refine .inr ⟨rfl, ?_⟩
      have h1 := h.1
      cases c with
      | d x => exact ⟨x, rfl⟩
      | _ => simp at h1
  | b :: ls, c :: cs, j + 1, b', c', h, e1, e2 => by
    unfold fits at h
    rw [Bool.and_eq_true] at h
    exact fits_get h.2 (by simpa using e1) (by simpa using e2)
  | [], _, _, _, _, _, e, _ => by simp at e
  | _ :: _, [], _, _, _, _, _, e => by simp at e
theorem nodup_getD {oss : List (List Addr)} (h : oss.flatten.Nodup) (i : Nat) : (oss.getD i []).Nodup := by
  induction oss generalizing i with
  | nil => simp
  | cons os oss ih =>
    rw [List.flatten_cons, List.nodup_append] at h
    cases i with
    | zero => exact h.1
    | succ i => simpa using ih h.2.1 i
theorem mem_getD {oss : List (List Addr)} {i : Nat} {a : Addr} (h : a ∈ oss.getD i []) : a ∈ oss.flatten := by
  induction oss generalizing i with
  | nil => simp at h
  | cons os oss ih =>
    rw [List.flatten_cons]
    cases i with
    | zero => exact List.mem_append_left _ (by simpa using h)
    | succ i => exact List.mem_append_right _ (ih (i := i) (by simpa using h))
theorem getD_mem {oss : List (List Addr)} {a : Addr} (h : a ∈ oss.flatten) : ∃ i, a ∈ oss.getD i [] := by
  induction oss with
  | nil => simp at h
  | cons os oss ih =>
    rw [List.flatten_cons] at h
    rcases List.mem_append.mp h with h | h
    · exact ⟨0, by simpa using h⟩
    · obtain ⟨i, hi⟩ := ih h
      exact ⟨i + 1, by simpa using hi⟩
theorem disj_getD {oss : List (List Addr)} (h : oss.flatten.Nodup) {i j : Nat} {a : Addr} (hij : i ≠ j) (h1 : a ∈ oss.getD i []) : a ∉ oss.getD j [] := by
  induction oss generalizing i j with
  | nil => simp at h1
  | cons os oss ih =>
    rw [List.flatten_cons, List.nodup_append] at h
    intro h2
    cases i with
    | zero =>
      cases j with
      | zero => exact hij rfl
      | succ j => exact h.2.2 a (by simpa using h1) a (mem_getD (i := j) (by simpa using h2)) rfl
    | succ i =>
      cases j with
      | zero => exact h.2.2 a (by simpa using h2) a (mem_getD (i := i) (by simpa using h1)) rfl
      | succ j => exact ih h.2.1 (i := i) (j := j) (fun z => hij (by rw [z])) (by simpa using h1) (by simpa using h2)
open Classical in
/-- the heap without what is lent -/
noncomputable def lessL (H : Hp) (l : List Addr) : Hp := fun b => if b ∈ l then none else H b
theorem lessL_in {H : Hp} {l : List Addr} {b : Addr} (h : b ∈ l) : lessL H l b = none := if_pos h
theorem lessL_out {H : Hp} {l : List Addr} {b : Addr} (h : b ∉ l) : lessL H l b = H b := if_neg h
def addrOf : V → Addr
  | .ref a => a
  | _ => 0
def laOf (vs : List V) (i : Nat) : Addr := addrOf (vs.getD i .non)
theorem startL_ok {K : PySem.W.Frag} {w : World} {mg : Str → Option Value} {H : Hp} {O : Addr → Prop} {ls : List Bool} {cs : List Cell} {oss : List (List Addr)} {vs : List V} {N : List Str} (hN : cs.length ≤ N.length) (hO : ∀ b, O b → ∃ o, H b = some o) (hf : fits ls cs = true)
    (r : AllR (kw0 K w mg) H O oss cs vs) (nd : oss.flatten.Nodup) (hs : ∀ a ∈ oss.flatten, O a) :
    EnvOk ⟨K, w, mg, laOf vs⟩ (lessL H oss.flatten) H (fun b => O b ∧ b ∉ oss.flatten) (fun i => oss.getD i []) (L2.start N vs) (startL N.length ls cs) ∧ tO (fun b => O b ∧ b ∉ oss.flatten) (fun i => oss.getD i []) = O := by
  have hl := fits_len hf
  obtain ⟨l1, l2⟩ := AllR_len r
  have eO : tO (fun b => O b ∧ b ∉ oss.flatten) (fun i => oss.getD i []) = O := by
    funext a
    refine propext ⟨fun z => ?_, fun z => ?_⟩
    · rcases z with z | ⟨i, z⟩
      · exact z.1
      · exact hs a (mem_getD z)
    · by_cases h : a ∈ oss.flatten
      · obtain ⟨i, hi⟩ := getD_mem h
        exact .inr ⟨i, hi⟩
      · exact .inl ⟨z, h⟩
  refine ⟨⟨fun b o q => ?_, ?_, fun i c q => ?_, fun i a h => ?_, fun i => nodup_getD nd i, fun i j a hij h1 => disj_getD nd hij h1, fun i a h => lessL_in (mem_getD h), fun a h => ?_⟩, eO⟩
  · by_cases hb : b ∈ oss.flatten
    · rw [lessL_in hb] at q; cases q
    · rw [lessL_out hb] at q; exact q
  · unfold L2.start startL
    rw [List.length_append, List.length_append, List.length_map, List.length_replicate, List.length_replicate, pars_len hl, l2]
  · rw [eO]
    unfold startL at q
    unfold L2.start
    by_cases hi : i < cs.length
    · rw [List.getElem?_append_left (by rw [pars_len hl]; exact hi)] at q
      rw [List.getElem?_append_left (by rw [List.length_map, l2]; exact hi), List.getElem?_map]
      obtain ⟨b, c', e1, e2, e3⟩ := pars_get q
      obtain ⟨v, e4, e5⟩ := AllR_get r e2
      rw [Nat.zero_add] at e3
      refine .inr ⟨v, by rw [e4]; rfl, ?_⟩
      rcases fits_get hf e1 e2 with ⟨rfl, hc⟩ | ⟨rfl, x, rfl⟩
      · rw [e3, if_pos rfl]
        have e6 := CellR_at (la := laOf vs) (lendC_plain hc) e5
        obtain ⟨al, rfl⟩ := CellR_ref e6 (lendC_nd hc)
        have ea : laOf vs i = al := by
          unfold laOf
          rw [List.getD_eq_getElem?_getD, e4]
          rfl
        have w2 : CellR (⟨K, w, mg, laOf vs⟩ : KW) H O (oss.getD i []) (.par i c') (.ref ((⟨K, w, mg, laOf vs⟩ : KW).la i)) := CellR_parI (by
          show CellR _ H O _ c' (.ref (laOf vs i))
          rw [ea]
          exact e6)
        have e7 : (⟨K, w, mg, laOf vs⟩ : KW).la i = al := ea
        rw [e7] at w2
        exact w2
      · rw [e3, if_neg Bool.false_ne_true]
        exact CellR_at rfl e5
    · rw [List.getElem?_append_right (by rw [pars_len hl]; omega)] at q
      rw [List.getElem?_replicate] at q
      split at q
      · cases q
        exact .inl rfl
      · cases q
  · have hi : i < cs.length := by
      by_cases z : i < oss.length
      · omega
      · rw [List.getD_eq_getElem?_getD, List.getElem?_eq_none (by omega)] at h
        cases h
    obtain ⟨v, _, e5⟩ := AllR_get r (List.getElem?_eq_getElem hi)
    exact CellR_there e5 a h
  · obtain ⟨o, e⟩ := hO a h.1
    exact ⟨o, by rw [lessL_out h.2]; exact e⟩
/-- the owners of what is given back -/
def backOs : Nat → List Bool → (Nat → List Addr) → List (List Addr)
  | _, [], _ => []
  | i, b :: ls, own => (if b = true then own i else []) :: backOs (i + 1) ls own
theorem back_mem {own : Nat → List Addr} {a : Addr} : ∀ {i : Nat} {ls : List Bool}, a ∈ (backOs i ls own).flatten → ∃ j, i ≤ j ∧ a ∈ own j
  | _, [], h => by cases h
  | i, b :: ls, h => by
    have h : a ∈ (if b = true then own i else []) ++ (backOs (i + 1) ls own).flatten := h
    rcases List.mem_append.mp h with h | h
    · split at h
      · exact ⟨i, Nat.le_refl _, h⟩
      · cases h
    · obtain ⟨j, h1, h2⟩ := back_mem h
      exact ⟨j, by omega, h2⟩
theorem back_mem' {own : Nat → List Addr} {a : Addr} : ∀ {i : Nat} {ls : List Bool}, a ∈ (backOs i ls own).flatten → ∃ j, i ≤ j ∧ j < i + ls.length ∧ a ∈ own j
  | _, [], h => by cases h
  | i, b :: ls, h => by
    have h : a ∈ (if b = true then own i else []) ++ (backOs (i + 1) ls own).flatten := h
    rw [List.length_cons]
    rcases List.mem_append.mp h with h | h
    · split at h
      · exact ⟨i, Nat.le_refl _, by omega, h⟩
      · cases h
    · obtain ⟨j, h1, h2, h3⟩ := back_mem' h
      exact ⟨j, by omega, by omega, h3⟩
theorem partsOf_len : ∀ {i : Nat} {ls : List Bool} {e : Env} {cs : List Cell}, partsOf i ls e = some cs → ls.length ≤ e.length
  | _, [], _, _, _ => Nat.zero_le _
  | i, b :: ls, e, cs, h => by
    unfold partsOf at h
    cases e with
    | nil => cases h
    | cons c e =>
      dsimp only at h
      cases q : partsOf (i + 1) ls e with
      | none => rw [q] at h; cases h
      | some cs' =>
        have := partsOf_len q
        simp
        omega
theorem back_nodup {own : Nat → List Addr} (nd : ∀ i, (own i).Nodup) (dj : ∀ i j a, i ≠ j → a ∈ own i → a ∉ own j) : ∀ {i : Nat} {ls : List Bool}, (backOs i ls own).flatten.Nodup
  | _, [] => List.nodup_nil
  | i, b :: ls => by
    show ((if b = true then own i else []) ++ (backOs (i + 1) ls own).flatten).Nodup
    rw [List.nodup_append]
    refine ⟨?_, back_nodup nd dj, fun a h1 c h2 e => ?_⟩
    · split
      · exact nd i
      · exact List.nodup_nil
    · subst e
      split at h1
      · obtain ⟨j, hj, h3⟩ := back_mem h2
        exact dj i j a (by omega) h1 h3
      · cases h1
theorem parts_fin {K : KW} {H : Hp} {O O' : Addr → Prop} {own : Nat → List Addr} (so : ∀ a, O' a → O a) : ∀ {i : Nat} {ls : List Bool} {e : Env} {fs : List Cell} {vs : List V}, partsOf i ls e = some fs → vs.length = ls.length → (∀ j c, e[j]? = some c → c ≠ .un → ∃ v, CellR K H O (own (i + j)) c v) →
    (∀ (j : Nat) (v : V), vs[j]? = some v → ls[j]? = some true → v = V.ref (K.la (i + j))) → FinR K H O' ls (backOs i ls own) fs vs
  | i, [], e, fs, vs, h, hl, _, _ => by
    cases h
    cases vs with
    | nil => exact trivial
    | cons _ _ => cases hl
  | i, b :: ls, e, fs, vs, h, hl, hc, hv => by
    unfold partsOf at h
    cases e with
    | nil => cases h
    | cons c e =>
      dsimp only at h
      cases q : partsOf (i + 1) ls e with
      | none => rw [q] at h; cases h
      | some cs =>
        rw [q] at h
        dsimp only at h
        cases vs with
        | nil => cases hl
        | cons v vs =>
          have rest := parts_fin so (vs := vs) q (by simpa using hl) (fun j c' e1 n => by
            obtain ⟨v', w⟩ := hc (j + 1) c' (by simpa using e1) n
            exact ⟨v', by rw [show i + 1 + j = i + (j + 1) by omega]; exact w⟩) (fun j v' e1 e2 => by
            have := hv (j + 1) v' (by simpa using e1) (by simpa using e2)
            rw [show i + 1 + j = i + (j + 1) by omega]
            exact this)
          cases b with
          | false =>
            rw [if_neg Bool.false_ne_true] at h
            cases h
            exact ⟨by rw [if_neg Bool.false_ne_true]; rfl, rest⟩
          | true =>
            rw [if_pos rfl] at h
            split at h
            · rename_i k c'
              split at h
              · rename_i hk
                cases h
                obtain ⟨rfl, hlc⟩ := hk
                refine ⟨?_, rest⟩
                rw [if_pos rfl]
                refine ⟨hlc, ?_⟩
                have ev : v = .ref (K.la k) := by simpa using hv 0 v rfl rfl
                rw [ev]
                obtain ⟨v2, w2⟩ := hc 0 _ rfl (fun z => by cases z)
                obtain ⟨e2, w3⟩ := CellR_par w2
                rw [Nat.add_zero] at w3
                rw [e2] at w3
                exact CellR_mono (Same.refl H) (fun a o _ z => so a z) w3
              · cases h
            · cases h
theorem FinR_la {K : KW} {la : Nat → Addr} {H : Hp} {O : Addr → Prop} : ∀ {ls : List Bool} {oss : List (List Addr)} {cs : List Cell} {vs : List V}, FinR K H O ls oss cs vs → FinR { K with la := la } H O ls oss cs vs
  | [], [], [], [], _ => trivial
  | b :: ls, os :: oss, c :: cs, v :: vs, ⟨h, r⟩ => by
    refine ⟨?_, FinR_la r⟩
    cases b with
    | true =>
      rw [if_pos rfl] at h ⊢
      exact ⟨h.1, CellR_la os c v (lendC_plain h.1) h.2⟩
    | false =>
      rw [if_neg Bool.false_ne_true] at h ⊢
      exact h
  | [], _ :: _, _, _, r => r.elim
  | [], [], _ :: _, _, r => r.elim
  | [], [], [], _ :: _, r => r.elim
  | _ :: _, [], _, _, r => r.elim
  | _ :: _, _ :: _, [], _, r => r.elim
  | _ :: _, _ :: _, _ :: _, [], r => r.elim
theorem fnL {P : Program} {w : World} {mg : Str → Option Value} {base : Heap} {K : PySem.W.Frag} {x qual : Str} {fst : Stmt} {f : Addr} {fd : FuncData} {N ps : List Str} {ls : List Bool} {k : Nat} {gb : Env → Out} (F : Fun K x qual fst f fd) (S : FnScope N ps (defScope fst)) (hp : ls.length = ps.length) (hN : ps.length ≤ N.length)
    (hb : ∀ (la : Nat → Addr) (cdv : Value) (A : Around) (outer : List PySem.Env) (s : Shared) (H : Hp) (E : XK), Room k (A.deeper (envOfC qual (defScope fst) s.heap.objs.size f cdv)) →
      PSs (cxOf (L2.CX P w) P w K mg base N qual (defScope fst) f cdv A outer s H E) (defBody fst) (tsD ⟨K, w, mg, la⟩ mg (fun cls d _ H => E cls d H) gb)) :
    FnOk P w K mg base (L2.CX P w) (k + 1) f fd ps (spL K w mg ls (runL N.length ls gb)) := by
  refine F.okX S (fun vs H Q E h => ?_) (fun cdv A outer s H vs Q E hr h => ⟨_, hb (laOf vs) cdv A outer s H E hr, ?_⟩)
  · obtain ⟨O, cs, oss, _, hf, r, _⟩ := h
    rw [(AllR_len r).2, ← fits_len hf, hp]
  · obtain ⟨O, cs, oss, hO, hf, r, nd, hs, h⟩ := h
    have hl := fits_len hf
    obtain ⟨l1, l2⟩ := AllR_len r
    obtain ⟨E0, eO⟩ := startL_ok (N := N) (by omega) hO hf r nd hs
    refine ⟨_, _, _, _, E0, ?_⟩
    unfold runL at h
    rw [if_pos hf] at h
    have fin : ∀ (c : Cell) (e : Env) (v : V) (σ' : L2.St) (H' : Hp) (own' : Nat → List Addr) (os : List Addr), (match outsL ls c e with
        | .ok (c, fs) => ∀ v H' os oss', (∀ b o, b ∉ oss.flatten → H b = some o → H' b = some o) → (∀ a ∈ oss'.flatten, a ∈ oss.flatten ∨ H a = none) → (∀ a ∈ os, a ∈ oss.flatten ∨ H a = none) → (os ++ oss'.flatten).Nodup →
            FinR (kw0 K w mg) H' (fun a => ((O a ∧ a ∉ oss.flatten) ∨ a ∈ oss'.flatten) ∨ a ∈ os) ls oss' fs vs → CellR (kw0 K w mg) H' (fun a => ((O a ∧ a ∉ oss.flatten) ∨ a ∈ oss'.flatten) ∨ a ∈ os) os c v → Q v H'
        | _ => False) → (∃ n, σ'.length ≤ n ∧ ∀ a ∈ os, a ∈ own' n) → EnvOk ⟨K, w, mg, laOf vs⟩ (lessL H oss.flatten) H' (fun b => O b ∧ b ∉ oss.flatten) own' σ' e → os.Nodup →
        CellR ⟨K, w, mg, laOf vs⟩ H' (tO (fun b => O b ∧ b ∉ oss.flatten) own') os c v → Q v H' := by
      intro c e v σ' H' own' os h hn E' nd' rc
      obtain ⟨n, hn, son⟩ := hn
      unfold outsL at h
      split at h
      · rename_i c2 fs q
        split at q
        · rename_i pl
          split at q
          · rename_i cs' q2
            cases q
            have f3 : ∀ a, lessL H oss.flatten a = none → a ∈ oss.flatten ∨ H a = none := fun a z => by
              by_cases ha : a ∈ oss.flatten
              · exact .inl ha
              · exact .inr (by rw [lessL_out ha] at z; exact z)
            have so : ∀ a, (((O a ∧ a ∉ oss.flatten) ∨ a ∈ (backOs 0 ls own').flatten) ∨ a ∈ os) → tO (fun b => O b ∧ b ∉ oss.flatten) own' a := fun a z => by
              rcases z with (z | z) | z
              · exact .inl z
              · obtain ⟨j, _, hj⟩ := back_mem z
                exact .inr ⟨j, hj⟩
              · exact .inr ⟨n, son a z⟩
            have lsn : ls.length ≤ n := by
              have e1 := E'.len
              have e2 : ls.length ≤ e.length := partsOf_len q2
              omega
            refine h v H' os (backOs 0 ls own') (fun b o nb eb => E'.same b o (by rw [lessL_out nb]; exact eb)) (fun a ha => ?_) (fun a ha => f3 a (E'.fresh n a (son a ha))) ?_ ?_ ?_
            · obtain ⟨j, _, hj⟩ := back_mem ha
              exact f3 a (E'.fresh j a hj)
            · rw [List.nodup_append]
              refine ⟨nd', back_nodup E'.nd E'.dj, fun a h1 b h2 e => ?_⟩
              subst e
              obtain ⟨j, hj1, hj2, hj⟩ := back_mem' h2
              exact E'.dj n j a (by omega) (son a h1) hj
            · refine FinR_la (K := ⟨K, w, mg, laOf vs⟩) (parts_fin so q2 (by omega) (fun j c' e1 n => ?_) (fun j v' e1 e2 => ?_))
              · obtain ⟨v', _, w'⟩ := E'.get e1 n
                exact ⟨v', by rw [Nat.zero_add]; exact w'⟩
              · rw [Nat.zero_add]
                have hj : j < cs.length := by
                  have := (List.getElem?_eq_some_iff.mp e2).1
                  omega
                obtain ⟨v2, e3, e4⟩ := AllR_get r (List.getElem?_eq_getElem hj)
                rcases fits_get hf e2 (List.getElem?_eq_getElem hj) with ⟨_, hc⟩ | ⟨z, _⟩
                · obtain ⟨al, rfl⟩ := CellR_ref e4 (lendC_nd hc)
                  rw [e1] at e3
                  cases e3
                  show V.ref al = V.ref (laOf vs j)
                  unfold laOf
                  rw [List.getD_eq_getElem?_getD, e1]
                  rfl
                · cases z
            · exact CellR_to pl (CellR_mono (Same.refl H') (fun a o _ z => so a z) rc)
          · cases q
        · cases q
      · exact h.elim
    cases q : gb (startL N.length ls cs) with
    | no => rw [q] at h; exact h
    | bk e => rw [q] at h; exact h.elim
    | ct e => rw [q] at h; exact h.elim
    | rt c => rw [q] at h; exact h.elim
    | ex k fs e => rw [q] at h; exact h.elim
    | re c e =>
      rw [q] at h
      exact fun v σ' H' own' n os hn so nd' E' rc => fin c e v σ' H' own' os h ⟨n, hn, so⟩ E' nd' rc
    | nx e =>
      rw [q] at h
      exact fun σ' H' own' E' _ => fin (.d .none) e .non σ' H' own' [] h ⟨σ'.length, Nat.le_refl _, fun a ha => by cases ha⟩ E' List.nodup_nil ⟨rfl, .non⟩
end DL
/-! ## DL, part 13: calls that change what is lent -/
namespace DL
open PySem PySem.Spec PyProof.Rows L2
/-- what slot i holds, to be lent -/
def insideC (i : Nat) (e : Env) : R Cell := match e[i]? with
  | some (.par _ c) => if lendC c = true then .ok c else .no
  | some c => if lendC c = true then .ok c else .no
  | none => .no
def wrapC (c : Cell) : Cell → Cell
  | .par k _ => .par k c
  | _ => c
def putBack (i : Nat) (c : Cell) (e : Env) : Env := match e[i]? with
  | some x => e.set i (wrapC c x)
  | none => e
/-- an argument: data, or what a slot holds -/
inductive ArgS where
  | dat (f : Env → R Cell)
  | slot (i : Nat)
def argsC : List ArgS → Env → R (List Cell)
  | [], _ => .ok []
  | .dat f :: as, en => ((f en).bind asD).bind fun d => (argsC as en).bind fun cs => .ok (.d d :: cs)
  | .slot i :: as, en => (insideC i en).bind fun c => (argsC as en).bind fun cs => .ok (c :: cs)
def flagsA : List ArgS → List Bool
  | [] => []
  | .dat _ :: as => false :: flagsA as
  | .slot _ :: as => true :: flagsA as
def slotsA : List ArgS → List Nat
  | [] => []
  | .dat _ :: as => slotsA as
  | .slot i :: as => i :: slotsA as
def putAllB : List ArgS → List Cell → Env → Env
  | .dat _ :: as, _ :: cs, e => putAllB as cs e
  | .slot i :: as, c :: cs, e => putBack i c (putAllB as cs e)
  | _, _, e => e
/-- a call -/
def callL (as : List ArgS) (m : List Cell → R (Cell × List Cell)) (en : Env) : R (Cell × Env) := (argsC as en).bind fun cs => (m cs).quiet.bind fun p => .ok (p.1, putAllB as p.2 en)
/-! ### what comes with a new state of the slots -/
/-- the result's objects are owned behind the slots -/
def HandX (K : KW) (mg : Str → Option Value) (W : WX) (H0 : Hp) (O0 : Addr → Prop) (own : Nat → List Addr) (H : Hp) (σ : L2.St) (r : R (Cell × Env)) (Q : VK) : Prop :=
  match r with
  | .no => False
  | .ok (c, e') => ∀ v H' own' n os, σ.length ≤ n → (∀ a ∈ os, a ∈ own' n) → os.Nodup → EnvOk K H0 H' O0 own' σ e' → Same (hide H (tO O0 own)) (hide H' (tO O0 own')) → CellR K H' (tO O0 own') os c v → Q v H'
  | .ex k fs => ∀ H' cls d, Same H H' → ExcR K mg (hide H' (tO O0 own)) cls d k fs → W cls d σ H'
def texD (K : KW) (mg : Str → Option Value) (W : WX) (f : Env → R (Cell × Env)) : TE := fun σ H Q => ∃ H0 O0 own env, EnvOk K H0 H O0 own σ env ∧ HandX K mg W H0 O0 own H σ (f env) Q
/-! ### the arguments are read -/
def readS (K : KW) (mg : Str → Option Value) (W : WX) : List ArgS → TA
  | [] => tNil
  | .dat f :: as => tCons (teD K mg W f) (readS K mg W as)
  | .slot i :: as => tCons (tVar i) (readS K mg W as)
def RdR (K : KW) (H : Hp) (O : Addr → Prop) (σ : L2.St) (env : Env) : List ArgS → List Cell → List V → Prop
  | [], [], [] => True
  | .dat _ :: as, c :: cs, v :: vs => (∃ x, c = .d x ∧ Dp K (hide H O) v x) ∧ RdR K H O σ env as cs vs
  | .slot i :: as, c :: cs, v :: vs => (insideC i env = .ok c ∧ σ[i]? = some (some v)) ∧ RdR K H O σ env as cs vs
  | _, _, _ => False
section
variable {K : KW} {mg : Str → Option Value} {W : WX} {H0 H : Hp} {O0 : Addr → Prop} {own : Nat → List Addr} {σ : L2.St} {env : Env}
theorem inside_some {i : Nat} {c : Cell} (h : insideC i env = .ok c) : lendC c = true ∧ ((∃ k, env[i]? = some (.par k c)) ∨ env[i]? = some c) := by
  unfold insideC at h
  split at h
  · rename_i k c' q
    split at h
    · cases h
      rename_i hl
      exact ⟨hl, .inl ⟨k, q⟩⟩
    · cases h
  · rename_i c' _ q
    split at h
    · cases h
      rename_i hl
      exact ⟨hl, .inr q⟩
    · cases h
  · cases h
theorem inside_get {i : Nat} {c : Cell} (E : EnvOk K H0 H O0 own σ env) (h : insideC i env = .ok c) : ∃ v, σ[i]? = some (some v) ∧ CellR K H (tO O0 own) (own i) c v := by
  obtain ⟨hl, ⟨k, q⟩ | q⟩ := inside_some h
  · obtain ⟨v, e1, e2⟩ := E.get q (fun z => by cases z)
    exact ⟨v, e1, (CellR_par e2).2⟩
  · exact E.get q (fun z => by rw [z] at hl; cases hl)
theorem inside_ex {i : Nat} {k : Str} {fs : List (Str × D)} (h : insideC i env = .ex k fs) : False := by
  unfold insideC at h
  split at h
  · split at h <;> cases h
  · split at h <;> cases h
  · cases h
theorem readS_ok : ∀ (as : List ArgS) (H : Hp) (Q : List V → Hp → Prop), EnvOk K H0 H O0 own σ env → (match argsC as env with
    | .no => False
    | .ok cs => ∀ vs H', Same H H' → RdR K H' (tO O0 own) σ env as cs vs → Q vs H'
    | .ex k fs => ∀ H' cls d, Same H H' → ExcR K mg (hide H' (tO O0 own)) cls d k fs → W cls d σ H') → readS K mg W as σ H Q
  | [], H, Q, E, h => h [] H (Same.refl H) trivial
  | .dat f :: as, H, Q, E, h => by
    refine ⟨H0, O0, own, env, E, ?_⟩
    have eq : argsC (.dat f :: as) env = ((f env).bind asD).bind fun d => (argsC as env).bind fun cs => .ok (.d d :: cs) := rfl
    rw [eq] at h
    cases q : f env with
    | no => simp only [q, R.bind_no] at h
    | ex k fs => simp only [q, R.bind_ex] at h; exact h
    | ok c =>
      simp only [q, R.bind_ok] at h
      intro v H1 os s fr nd r
      cases q3 : asD c with
      | no => simp only [q3, R.bind_no] at h
      | ex k fs => exact (asD_ex q3).elim
      | ok d =>
        simp only [q3, R.bind_ok] at h
        have hd := dat_at E fr r q3
        refine readS_ok as H1 _ (E.mono s) ?_
        cases q4 : argsC as env with
        | no => simp only [q4, R.bind_no] at h
        | ex k fs =>
          simp only [q4, R.bind_ex] at h
          exact fun H' cls d s' w => h H' cls d (s.trans s') w
        | ok cs =>
          simp only [q4, R.bind_ok] at h
          exact fun vs H' s' r => h (v :: vs) H' (s.trans s') ⟨⟨d, rfl, Dp_mono (same_h s') _ _ hd⟩, r⟩
  | .slot i :: as, H, Q, E, h => by
    have eq : argsC (.slot i :: as) env = (insideC i env).bind fun c => (argsC as env).bind fun cs => .ok (c :: cs) := rfl
    rw [eq] at h
    cases q : insideC i env with
    | no => simp only [q, R.bind_no] at h
    | ex k fs => exact (inside_ex q).elim
    | ok c =>
      simp only [q, R.bind_ok] at h
      obtain ⟨v, e1, _⟩ := inside_get E q
      refine ⟨v, e1, readS_ok as H _ E ?_⟩
      cases q4 : argsC as env with
      | no => simp only [q4, R.bind_no] at h
      | ex k fs =>
        simp only [q4, R.bind_ex] at h
        exact h
      | ok cs =>
        simp only [q4, R.bind_ok] at h
        exact fun vs H' s' r => h (v :: vs) H' s' ⟨⟨q, e1⟩, r⟩
/-- the arguments' owners -/
def ossA (own : Nat → List Addr) : List ArgS → List (List Addr)
  | [] => []
  | .dat _ :: as => [] :: ossA own as
  | .slot i :: as => own i :: ossA own as
theorem rd_all : ∀ {as : List ArgS} {cs : List Cell} {vs : List V}, EnvOk K H0 H O0 own σ env → RdR K H (tO O0 own) σ env as cs vs → fits (flagsA as) cs = true ∧ AllR K H (tO O0 own) (ossA own as) cs vs
  | [], [], [], _, _ => ⟨rfl, trivial⟩
  | .dat _ :: as, c :: cs, v :: vs, E, ⟨⟨x, h1, h2⟩, r⟩ => by
    subst h1
    obtain ⟨r1, r2⟩ := rd_all E r
    refine ⟨?_, ⟨rfl, h2⟩, r2⟩
    show (true && fits (flagsA as) cs) = true
    rw [r1]; rfl
  | .slot i :: as, c :: cs, v :: vs, E, ⟨⟨h1, h2⟩, r⟩ => by
    obtain ⟨r1, r2⟩ := rd_all E r
    obtain ⟨v', e1, e2⟩ := inside_get E h1
    rw [h2] at e1
    cases e1
    refine ⟨?_, e2, r2⟩
    show (lendC c && fits (flagsA as) cs) = true
    rw [r1, (inside_some h1).1]; rfl
  | [], [], _ :: _, _, r => r.elim
  | [], _ :: _, _, _, r => r.elim
  | .dat _ :: _, [], _, _, r => r.elim
  | .dat _ :: _, _ :: _, [], _, r => r.elim
  | .slot _ :: _, [], _, _, r => r.elim
  | .slot _ :: _, _ :: _, [], _, r => r.elim
theorem AllR_to {la : Nat → Addr} {K : PySem.W.Frag} {w : World} {O : Addr → Prop} : ∀ {ls : List Bool} {oss : List (List Addr)} {cs : List Cell} {vs : List V}, fits ls cs = true → AllR ⟨K, w, mg, la⟩ H O oss cs vs → AllR (kw0 K w mg) H O oss cs vs
  | [], [], [], [], _, _ => trivial
  | b :: ls, os :: oss, c :: cs, v :: vs, h, ⟨q, r⟩ => by
    unfold fits at h
    rw [Bool.and_eq_true] at h
    refine ⟨CellR_to ?_ q, AllR_to h.2 r⟩
    have h1 := h.1
    cases b with
    | true => exact lendC_plain (by simpa using h1)
    | false =>
      cases c with
      | d x => rfl
      | _ => simp at h1
  | _, [], _ :: _, _, _, r => r.elim
  | _, _ :: _, [], _, _, r => r.elim
  | _, [], [], _ :: _, _, r => r.elim
  | _, _ :: _, _ :: _, [], _, r => r.elim
  | [], _ :: _, _ :: _, _ :: _, h, _ => by cases h
  | _ :: _, [], [], [], h, _ => by cases h
/-- the argument that is slot j -/
def slotIdx : List ArgS → Nat → Option Nat
  | [], _ => none
  | .slot i :: as, j => if i = j then some 0 else (slotIdx as j).map (· + 1)
  | .dat _ :: as, j => (slotIdx as j).map (· + 1)
theorem slotIdx_some : ∀ {as : List ArgS} {j k : Nat}, slotIdx as j = some k → as[k]? = some (.slot j)
  | .slot i :: as, j, k, h => by
    unfold slotIdx at h
    split at h
    · rename_i e
      cases h
      rw [e]; rfl
    · obtain ⟨m, h1, h2⟩ := Option.map_eq_some_iff.mp h
      rw [← h2]
      simpa using slotIdx_some h1
  | .dat _ :: as, j, k, h => by
    unfold slotIdx at h
    obtain ⟨m, h1, h2⟩ := Option.map_eq_some_iff.mp h
    rw [← h2]
    simpa using slotIdx_some h1
  | [], _, _, h => by cases h
theorem slotIdx_none : ∀ {as : List ArgS} {j k : Nat}, slotIdx as j = none → as[k]? ≠ some (.slot j)
  | .slot i :: as, j, k, h => by
    unfold slotIdx at h
    split at h
    · cases h
    · rename_i n
      cases k with
      | zero => exact fun z => n (by simpa using z)
      | succ k => simpa using slotIdx_none (Option.map_eq_none_iff.mp h)
  | .dat _ :: as, j, k, h => by
    unfold slotIdx at h
    cases k with
    | zero => exact fun z => by simp at z
    | succ k => simpa using slotIdx_none (Option.map_eq_none_iff.mp h)
  | [], _, _, _ => by simp
theorem mem_slots : ∀ {as : List ArgS} {j k : Nat}, as[k]? = some (.slot j) → j ∈ slotsA as
  | .slot i :: as, j, 0, h => by
    cases h
    exact List.mem_cons_self
  | .slot i :: as, j, k + 1, h => List.mem_cons_of_mem _ (mem_slots (as := as) (k := k) (by simpa using h))
  | .dat _ :: as, j, 0, h => by simp at h
  | .dat _ :: as, j, k + 1, h => mem_slots (as := as) (k := k) (by simpa using h)
  | [], _, _, h => by simp at h
theorem oss_get : ∀ {as : List ArgS} {j k : Nat}, as[k]? = some (.slot j) → (ossA own as).getD k [] = own j
  | .slot i :: as, j, 0, h => by
    cases h
    rfl
  | .slot i :: as, j, k + 1, h => by simpa [ossA] using oss_get (as := as) (k := k) (by simpa using h)
  | .dat _ :: as, j, 0, h => by simp at h
  | .dat _ :: as, j, k + 1, h => by simpa [ossA] using oss_get (as := as) (k := k) (by simpa using h)
  | [], _, _, h => by simp at h
theorem oss_mem {a : Addr} : ∀ {as : List ArgS}, a ∈ (ossA own as).flatten → ∃ (j k : Nat), as[k]? = some (ArgS.slot j) ∧ a ∈ own j
  | .slot i :: as, h => by
    have h : a ∈ own i ++ (ossA own as).flatten := h
    rcases List.mem_append.mp h with h | h
    · exact ⟨i, 0, rfl, h⟩
    · obtain ⟨j, k, h1, h2⟩ := oss_mem (as := as) h
      exact ⟨j, k + 1, by simpa using h1, h2⟩
  | .dat _ :: as, h => by
    have h : a ∈ [] ++ (ossA own as).flatten := h
    obtain ⟨j, k, h1, h2⟩ := oss_mem (as := as) (by simpa using h)
    exact ⟨j, k + 1, by simpa using h1, h2⟩
  | [], h => by cases h
theorem oss_nodup (nd : ∀ i, (own i).Nodup) (dj : ∀ i j a, i ≠ j → a ∈ own i → a ∉ own j) : ∀ {as : List ArgS}, (slotsA as).Nodup → (ossA own as).flatten.Nodup
  | [], _ => List.nodup_nil
  | .dat _ :: as, h => by
    show ([] ++ (ossA own as).flatten).Nodup
    rw [List.nil_append]
    exact oss_nodup nd dj (as := as) h
  | .slot i :: as, h => by
    have h : (i :: slotsA as).Nodup := h
    rw [List.nodup_cons] at h
    show (own i ++ (ossA own as).flatten).Nodup
    rw [List.nodup_append]
    refine ⟨nd i, oss_nodup nd dj h.2, fun a h1 b h2 e => ?_⟩
    subst e
    obtain ⟨j, k, h3, h4⟩ := oss_mem h2
    exact dj i j a (fun z => h.1 (by rw [z]; exact mem_slots h3)) h1 h4
theorem put_len : ∀ {as : List ArgS} {cs : List Cell} {e : Env}, (putAllB as cs e).length = e.length
  | .slot i :: as, c :: cs, e => by
    show (putBack i c (putAllB as cs e)).length = _
    unfold putBack
    split
    · rw [List.length_set, put_len]
    · exact put_len
  | .dat _ :: as, c :: cs, e => put_len (as := as) (cs := cs)
  | [], _, _ => rfl
  | .slot _ :: _, [], _ => rfl
  | .dat _ :: _, [], _ => rfl
theorem wrap_wrap {c d x : Cell} : wrapC c (wrapC d x) = match x with | .par k _ => .par k c | _ => wrapC c d := by
  cases x <;> rfl
theorem FinR_len {K : KW} {O : Addr → Prop} : ∀ {ls : List Bool} {oss : List (List Addr)} {cs : List Cell} {vs : List V}, FinR K H O ls oss cs vs → oss.length = ls.length ∧ cs.length = ls.length ∧ vs.length = ls.length
  | [], [], [], [], _ => ⟨rfl, rfl, rfl⟩
  | b :: ls, os :: oss, c :: cs, v :: vs, ⟨_, r⟩ => by
    obtain ⟨h1, h2, h3⟩ := FinR_len r
    simp [h1, h2, h3]
  | [], _ :: _, _, _, r => r.elim
  | [], [], _ :: _, _, r => r.elim
  | [], [], [], _ :: _, r => r.elim
  | _ :: _, [], _, _, r => r.elim
  | _ :: _, _ :: _, [], _, r => r.elim
  | _ :: _, _ :: _, _ :: _, [], r => r.elim
theorem FinR_get {K : KW} {O : Addr → Prop} : ∀ {ls : List Bool} {oss : List (List Addr)} {cs : List Cell} {vs : List V} {k : Nat}, FinR K H O ls oss cs vs → ls[k]? = some true → ∃ v, vs[k]? = some v ∧ lendC (cs.getD k .un) = true ∧ CellR K H O (oss.getD k []) (cs.getD k .un) v
  | b :: ls, os :: oss, c :: cs, v :: vs, 0, ⟨h, _⟩, e => by
    cases e
    rw [if_pos rfl] at h
    exact ⟨v, rfl, h⟩
  | b :: ls, os :: oss, c :: cs, v :: vs, k + 1, ⟨_, r⟩, e => by
    obtain ⟨v', h1, h2⟩ := FinR_get (k := k) r (by simpa using e)
    exact ⟨v', by simpa using h1, by simpa using h2⟩
  | [], [], [], [], _, _, e => by simp at e
  | [], _ :: _, _, _, _, r, _ => r.elim
  | [], [], _ :: _, _, _, r, _ => r.elim
  | [], [], [], _ :: _, _, r, _ => r.elim
  | _ :: _, [], _, _, _, r, _ => r.elim
  | _ :: _, _ :: _, [], _, _, r, _ => r.elim
  | _ :: _, _ :: _, _ :: _, [], _, r, _ => r.elim
theorem flags_get : ∀ {as : List ArgS} {k j : Nat}, as[k]? = some (.slot j) → (flagsA as)[k]? = some true
  | .slot i :: as, 0, j, h => rfl
  | .slot i :: as, k + 1, j, h => by simpa [flagsA] using flags_get (as := as) (k := k) (by simpa using h)
  | .dat _ :: as, 0, j, h => by simp at h
  | .dat _ :: as, k + 1, j, h => by simpa [flagsA] using flags_get (as := as) (k := k) (by simpa using h)
  | [], _, _, h => by simp at h
theorem rd_get : ∀ {as : List ArgS} {cs : List Cell} {vs : List V} {k j : Nat} {O : Addr → Prop}, RdR K H O σ env as cs vs → as[k]? = some (.slot j) → ∃ c v, insideC j env = .ok c ∧ vs[k]? = some v ∧ σ[j]? = some (some v)
  | .slot i :: as, c :: cs, v :: vs, 0, j, O, ⟨⟨h1, h2⟩, r⟩, e => by
    cases e
    exact ⟨c, v, h1, rfl, h2⟩
  | .slot i :: as, c :: cs, v :: vs, k + 1, j, O, ⟨_, r⟩, e => by
    obtain ⟨c', v', h1, h2, h3⟩ := rd_get (k := k) r (by simpa using e)
    exact ⟨c', v', h1, by simpa using h2, h3⟩
  | .dat _ :: as, c :: cs, v :: vs, 0, j, O, ⟨_, r⟩, e => by simp at e
  | .dat _ :: as, c :: cs, v :: vs, k + 1, j, O, ⟨_, r⟩, e => by
    obtain ⟨c', v', h1, h2, h3⟩ := rd_get (k := k) r (by simpa using e)
    exact ⟨c', v', h1, by simpa using h2, h3⟩
  | [], [], [], _, _, _, _, e => by simp at e
  | [], [], _ :: _, _, _, _, r, _ => r.elim
  | [], _ :: _, _, _, _, _, r, _ => r.elim
  | .dat _ :: _, [], _, _, _, _, r, _ => r.elim
  | .dat _ :: _, _ :: _, [], _, _, _, r, _ => r.elim
  | .slot _ :: _, [], _, _, _, _, r, _ => r.elim
  | .slot _ :: _, _ :: _, [], _, _, _, r, _ => r.elim
theorem flags_len : ∀ {as : List ArgS}, (flagsA as).length = as.length
  | [] => rfl
  | .dat _ :: as => by
    show (flagsA as).length + 1 = as.length + 1
    rw [flags_len]
  | .slot _ :: as => by
    show (flagsA as).length + 1 = as.length + 1
    rw [flags_len]
theorem FinR_np {K : KW} {O : Addr → Prop} : ∀ {ls : List Bool} {oss : List (List Addr)} {cs : List Cell} {vs : List V} {k : Nat}, FinR K H O ls oss cs vs → ls[k]? = some true → ∀ j d, cs.getD k .un ≠ .par j d := fun r e j d z => by
  obtain ⟨v, _, h, _⟩ := FinR_get r e
  rw [z] at h
  cases h
/-- the owners behind a call -/
def ownB (as : List ArgS) (oss : List (List Addr)) (own : Nat → List Addr) (n : Nat) (os : List Addr) : Nat → List Addr := fun j => match slotIdx as j with
  | some k => oss.getD k []
  | none => if j = n then own n ++ os else own j
end
theorem put_get' {as : List ArgS} {cs : List Cell} {e : Env} {j : Nat} (hl : as.length = cs.length) (hp : ∀ k i, as[k]? = some (.slot i) → ∀ kk d, cs.getD k .un ≠ .par kk d) : (putAllB as cs e)[j]? = match slotIdx as j with | some k => (e[j]?).map (wrapC (cs.getD k .un)) | none => e[j]? := by
  induction as generalizing cs with
  | nil =>
    cases cs with
    | nil => rfl
    | cons _ _ => cases hl
  | cons a as ih =>
    cases cs with
    | nil => cases hl
    | cons c cs =>
      have ih := ih (cs := cs) (by simpa using hl) (fun k i h kk d => by simpa using hp (k + 1) i (by simpa using h) kk d)
      cases a with
      | dat f =>
        show (putAllB as cs e)[j]? = match (slotIdx as j).map (· + 1) with | some k => (e[j]?).map (wrapC ((c :: cs).getD k .un)) | none => e[j]?
        rw [ih]
        cases slotIdx as j <;> rfl
      | slot i =>
        show (putBack i c (putAllB as cs e))[j]? = match (if i = j then some 0 else (slotIdx as j).map (· + 1)) with | some k => (e[j]?).map (wrapC ((c :: cs).getD k .un)) | none => e[j]?
        by_cases hij : i = j
        · subst hij
          rw [if_pos rfl]
          show _ = (e[i]?).map (wrapC c)
          unfold putBack
          by_cases hi : i < e.length
          · have hi' : i < (putAllB as cs e).length := by rw [put_len]; exact hi
            rw [List.getElem?_eq_getElem hi']
            dsimp only
            rw [List.getElem?_set_self hi']
            rw [List.getElem?_eq_getElem hi'] at ih
            rw [List.getElem?_eq_getElem hi] at ih ⊢
            cases q : slotIdx as i with
            | none =>
              rw [q] at ih
              rw [Option.some.inj ih]; rfl
            | some k =>
              rw [q] at ih
              have e2 := Option.some.inj ih
              rw [e2]
              show some (wrapC c (wrapC (cs.getD k .un) e[i])) = some (wrapC c e[i])
              congr 1
              have np : ∀ kk d, cs.getD k .un ≠ .par kk d := fun kk d => by simpa using hp (k + 1) i (by simpa using slotIdx_some q) kk d
              rw [wrap_wrap]
              cases q3 : e[i] with
              | par kk d => rfl
              | _ =>
                dsimp only
                cases q4 : cs.getD k .un with
                | par kk d => exact absurd q4 (np kk d)
                | _ => rfl
          · have hi' : (putAllB as cs e).length ≤ i := by rw [put_len]; omega
            rw [List.getElem?_eq_none hi']
            dsimp only
            rw [List.getElem?_eq_none hi', List.getElem?_eq_none (by omega)]
            rfl
        · rw [if_neg hij]
          have e1 : (putBack i c (putAllB as cs e))[j]? = (putAllB as cs e)[j]? := by
            unfold putBack
            split
            · rw [List.getElem?_set_ne hij]
            · rfl
          rw [e1, ih]
          cases slotIdx as j <;> rfl

section
variable {K : PySem.W.Frag} {w : World} {mg : Str → Option Value} {la : Nat → Addr} {H0 H H' : Hp} {O0 : Addr → Prop} {own : Nat → List Addr} {σ : L2.St} {env : Env} {as : List ArgS} {cs fs : List Cell} {vs : List V} {oss' : List (List Addr)} {os : List Addr} {c : Cell} {v : V}
/-- behind a call -/
theorem back_ok (E : EnvOk ⟨K, w, mg, la⟩ H0 H O0 own σ env) (rd : RdR ⟨K, w, mg, la⟩ H (tO O0 own) σ env as cs vs) (nds : (slotsA as).Nodup) (pc : c.plain = true)
    (f1 : ∀ b o, b ∉ (ossA own as).flatten → H b = some o → H' b = some o) (f2 : ∀ a ∈ oss'.flatten, a ∈ (ossA own as).flatten ∨ H a = none) (f3 : ∀ a ∈ os, a ∈ (ossA own as).flatten ∨ H a = none) (f4 : (os ++ oss'.flatten).Nodup)
    (f5 : FinR (kw0 K w mg) H' (fun a => ((tO O0 own a ∧ a ∉ (ossA own as).flatten) ∨ a ∈ oss'.flatten) ∨ a ∈ os) (flagsA as) oss' fs vs) (f6 : CellR (kw0 K w mg) H' (fun a => ((tO O0 own a ∧ a ∉ (ossA own as).flatten) ∨ a ∈ oss'.flatten) ∨ a ∈ os) os c v) :
    EnvOk ⟨K, w, mg, la⟩ H0 H' O0 (ownB as oss' own σ.length os) σ (putAllB as fs env) ∧ Same (hide H (tO O0 own)) (hide H' (tO O0 (ownB as oss' own σ.length os))) ∧ CellR ⟨K, w, mg, la⟩ H' (tO O0 (ownB as oss' own σ.length os)) os c v ∧ ∀ a ∈ os, a ∈ ownB as oss' own σ.length os σ.length := by
  obtain ⟨g1, g2, g3⟩ := FinR_len f5
  have lcs : as.length = fs.length := by rw [g2, flags_len]
  have np : ∀ k i, as[k]? = some (ArgS.slot i) → ∀ kk d, fs.getD k .un ≠ .par kk d := fun k i h => FinR_np f5 (flags_get h)
  have nL : slotIdx as σ.length = none := by
    cases q : slotIdx as σ.length with
    | none => rfl
    | some k =>
      obtain ⟨c', v', _, _, e3⟩ := rd_get rd (slotIdx_some q)
      rw [List.getElem?_eq_none (Nat.le_refl _)] at e3
      cases e3
  -- what was lent
  have lent : ∀ a, a ∈ (ossA own as).flatten → ∃ j, (slotIdx as j).isSome = true ∧ a ∈ own j := fun a ha => by
    obtain ⟨j, k, h1, h2⟩ := oss_mem ha
    refine ⟨j, ?_, h2⟩
    cases q : slotIdx as j with
    | none => exact absurd h1 (slotIdx_none q)
    | some _ => rfl
  have notL : ∀ j a, slotIdx as j = none → a ∈ own j → a ∉ (ossA own as).flatten := fun j a hj ha z => by
    obtain ⟨i, hi, h2⟩ := lent a z
    have hij : i ≠ j := fun e => by
      rw [e, hj] at hi
      cases hi
    exact E.dj i j a hij h2 ha
  have inL : ∀ j k a, slotIdx as j = some k → a ∈ own j → a ∈ (ossA own as).flatten := fun j k a hj ha => by
    refine mem_getD (i := k) ?_
    rw [oss_get (slotIdx_some hj)]
    exact ha
  have bS : ∀ j k, slotIdx as j = some k → ownB as oss' own σ.length os j = oss'.getD k [] := fun j k h => by
    unfold ownB
    rw [h]
  have bN : ∀ j, slotIdx as j = none → j ≠ σ.length → ownB as oss' own σ.length os j = own j := fun j h n => by
    unfold ownB
    rw [h]
    exact if_neg n
  have bE : ownB as oss' own σ.length os σ.length = own σ.length ++ os := by
    unfold ownB
    rw [nL]
    exact if_pos rfl
  have freshL : ∀ a, (a ∈ (ossA own as).flatten ∨ H a = none) → H0 a = none := fun a h => by
    rcases h with h | h
    · obtain ⟨j, _, hj⟩ := lent a h
      exact E.fresh j a hj
    · exact E.same.free h
  -- kinds of owners
  have kinds : ∀ j a, a ∈ ownB as oss' own σ.length os j → (∃ k, slotIdx as j = some k ∧ a ∈ oss'.getD k []) ∨ (slotIdx as j = none ∧ a ∈ own j) ∨ (j = σ.length ∧ a ∈ os) := fun j a h => by
    cases q : slotIdx as j with
    | some k =>
      rw [bS j k q] at h
      exact .inl ⟨k, rfl, h⟩
    | none =>
      by_cases hj : j = σ.length
      · subst hj
        rw [bE] at h
        rcases List.mem_append.mp h with h | h
        · exact .inr (.inl ⟨rfl, h⟩)
        · exact .inr (.inr ⟨rfl, h⟩)
      · rw [bN j q hj] at h
        exact .inr (.inl ⟨rfl, h⟩)
  have thN : ∀ j a, slotIdx as j = none → a ∈ own j → ∃ o, H a = some o ∧ H' a = some o := fun j a hj ha => by
    obtain ⟨o, e⟩ := E.th j a ha
    exact ⟨o, e, f1 a o (notL j a hj ha) e⟩
  have newN : ∀ j a, slotIdx as j = none → a ∈ own j → ¬ (a ∈ (ossA own as).flatten ∨ H a = none) := fun j a hj ha z => by
    rcases z with z | z
    · exact notL j a hj ha z
    · obtain ⟨o, e, _⟩ := thN j a hj ha
      rw [e] at z
      cases z
  have oss_in : ∀ k a, a ∈ oss'.getD k [] → a ∈ oss'.flatten := fun k a h => mem_getD h
  have dis : ∀ a, a ∈ os → a ∉ oss'.flatten := fun a h1 h2 => (List.nodup_append.mp f4).2.2 a h1 a h2 rfl
  have tOb : ∀ a, tO O0 (ownB as oss' own σ.length os) a → ((tO O0 own a ∧ a ∉ (ossA own as).flatten) ∨ a ∈ oss'.flatten) ∨ a ∈ os := fun a z => by
    rcases z with z | ⟨j, z⟩
    · refine .inl (.inl ⟨.inl z, fun y => ?_⟩)
      obtain ⟨j, _, hj⟩ := lent a y
      obtain ⟨o, e⟩ := E.o0 a z
      rw [E.fresh j a hj] at e
      cases e
    · rcases kinds j a z with ⟨k, _, h⟩ | ⟨h1, h2⟩ | ⟨_, h⟩
      · exact .inl (.inr (oss_in k a h))
      · exact .inl (.inl ⟨.inr ⟨j, h2⟩, notL j a h1 h2⟩)
      · exact .inr h
  have smH : Same (hide H (tO O0 own)) (hide H' (tO O0 (ownB as oss' own σ.length os))) := fun a o e => by
    obtain ⟨n, e⟩ := hide_eq.mp e
    have nl : a ∉ (ossA own as).flatten := fun z => by
      obtain ⟨j, _, hj⟩ := lent a z
      exact n (.inr ⟨j, hj⟩)
    refine hide_eq.mpr ⟨fun z => ?_, f1 a o nl e⟩
    have no : ¬ (a ∈ (ossA own as).flatten ∨ H a = none) := fun y => by
      rcases y with y | y
      · exact nl y
      · rw [e] at y; cases y
    rcases tOb a z with (z | z) | z
    · exact n z.1
    · exact no (f2 a z)
    · exact no (f3 a z)
  refine ⟨⟨fun a o e => f1 a o (fun z => ?_) (E.same a o e), by rw [put_len]; exact E.len, fun j d e => ?_, fun j a h => ?_, fun j => ?_, fun i j a hij h1 h2 => ?_, fun j a h => ?_, E.o0⟩, smH, ?_, fun a ha => by rw [bE]; exact List.mem_append_right _ ha⟩
  · obtain ⟨j, _, hj⟩ := lent a z
    rw [E.fresh j a hj] at e
    cases e
  · rw [put_get' lcs np] at e
    cases q : slotIdx as j with
    | none =>
      rw [q] at e
      have hj : j ≠ σ.length := fun z => by
        subst z
        rw [E.len, List.getElem?_eq_none (Nat.le_refl _)] at e
        cases e
      rw [bN j q hj]
      exact SlotR_up smH (fun a ha o eo => f1 a o (notL j a q ha) eo) (E.cell j d e)
    | some k =>
      rw [q] at e
      rw [bS j k q]
      have hs := slotIdx_some q
      obtain ⟨c0, v0, i1, i2, i3⟩ := rd_get rd hs
      obtain ⟨v1, j1, j2, j3⟩ := FinR_get f5 (flags_get hs)
      rw [i2] at j1
      cases j1
      have j4 : CellR ⟨K, w, mg, la⟩ H' (tO O0 (ownB as oss' own σ.length os)) (oss'.getD k []) (fs.getD k .un) v0 := by
        have j5 := CellR_at (la := la) (lendC_plain j2) j3
        exact CellR_mono (Same.refl H') (fun a o _ z => tOb a z) j5
      obtain ⟨hl, ⟨kk, q2⟩ | q2⟩ := inside_some i1
      · rw [q2] at e
        cases e
        obtain ⟨v2, e1, e2⟩ := E.get q2 (fun z => by cases z)
        rw [i3] at e1
        cases e1
        refine .inr ⟨v0, i3, ?_⟩
        have ev := (CellR_par e2).1
        show CellR _ _ _ _ (.par kk (fs.getD k .un)) v0
        rw [ev] at j4 ⊢
        exact CellR_parI j4
      · rw [q2] at e
        refine .inr ⟨v0, i3, ?_⟩
        have ew : wrapC (fs.getD k .un) c0 = fs.getD k .un := by
          cases c0 with
          | par _ _ => cases hl
          | _ => rfl
        have e : some (wrapC (fs.getD k .un) c0) = some d := e
        rw [ew] at e
        cases e
        exact j4
  · rcases kinds j a h with ⟨k, h1, h2⟩ | ⟨h1, h2⟩ | ⟨_, h2⟩
    · obtain ⟨v1, _, _, j3⟩ := FinR_get f5 (flags_get (slotIdx_some h1))
      exact CellR_there j3 a h2
    · obtain ⟨o, _, e⟩ := thN j a h1 h2
      exact ⟨o, e⟩
    · exact CellR_there f6 a h2
  · cases q : slotIdx as j with
    | some k =>
      rw [bS j k q]
      exact nodup_getD (List.nodup_append.mp f4).2.1 k
    | none =>
      by_cases hj : j = σ.length
      · subst hj
        rw [bE, List.nodup_append]
        refine ⟨E.nd _, (List.nodup_append.mp f4).1, fun a h1 b h2 e => ?_⟩
        subst e
        exact newN _ a q h1 (f3 a h2)
      · rw [bN j q hj]
        exact E.nd j
  · rcases kinds i a h1 with ⟨k, p1, p2⟩ | ⟨p1, p2⟩ | ⟨p1, p2⟩
    · rcases kinds j a h2 with ⟨k', r1, r2⟩ | ⟨r1, r2⟩ | ⟨r1, r2⟩
      · refine disj_getD (List.nodup_append.mp f4).2.1 (fun e => hij ?_) p2 r2
        subst e
        have s1 := slotIdx_some p1
        rw [slotIdx_some r1] at s1
        cases s1
        rfl
      · exact newN j a r1 r2 (f2 a (oss_in k a p2))
      · exact dis a r2 (oss_in k a p2)
    · rcases kinds j a h2 with ⟨k', r1, r2⟩ | ⟨r1, r2⟩ | ⟨r1, r2⟩
      · exact newN i a p1 p2 (f2 a (oss_in k' a r2))
      · exact E.dj i j a hij p2 r2
      · exact newN i a p1 p2 (f3 a r2)
    · rcases kinds j a h2 with ⟨k', r1, r2⟩ | ⟨r1, r2⟩ | ⟨r1, r2⟩
      · exact dis a p2 (oss_in k' a r2)
      · exact newN j a r1 r2 (f3 a p2)
      · exact hij (p1.trans r1.symm)
  · rcases kinds j a h with ⟨k, h1, h2⟩ | ⟨h1, h2⟩ | ⟨_, h2⟩
    · exact freshL a (f2 a (oss_in k a h2))
    · exact E.fresh j a h2
    · exact freshL a (f3 a h2)
  · exact CellR_at pc (CellR_mono (Same.refl H') (fun a o _ z => tOb a z) f6)
end

section
variable {X : Cx} {la : Nat → Addr} {W : WX} {e a : Expr} {es : List Expr} {as : List ArgS} {ls : List Bool} {m : List Cell → R (Cell × List Cell)} {k : Nat} {f : Addr} {fd : FuncData} {ps : List Str} {x : Str} {p p' pos : Pos} {fx : Env → R (Cell × Env)} {st : Stmt}
theorem dl_nil : PA X [] (readS (X.kw la) X.mg W []) := pa_nil
theorem dl_dat {fa : Env → R Cell} (ha : PE X a (teD (X.kw la) X.mg W fa)) (hr : PA X es (readS (X.kw la) X.mg W as)) (hs : starEach (a :: es) X.env = (false, eval a X.env) :: starEach es X.env := by rfl) : PA X (a :: es) (readS (X.kw la) X.mg W (.dat fa :: as)) := pa_cons ha hr hs
theorem dl_slot {i : Nat} (ha : PE X a (tVar i)) (hr : PA X es (readS (X.kw la) X.mg W as)) (hs : starEach (a :: es) X.env = (false, eval a X.env) :: starEach es X.env := by rfl) : PA X (a :: es) (readS (X.kw la) X.mg W (.slot i :: as)) := pa_cons ha hr hs
/-- a call of a def that changes what is lent -/
theorem dx_call (F : FnOk X.prog X.w X.K X.mg X.base (L2.CX X.prog X.w) k f fd ps (spL X.K X.w X.mg ls m)) (hr : Room k X.A) (tk : Takes X W) (hm : X.mg x = some (.ref f)) (hk : PySem.W.keepIn X.K (.ref f) = true) (hb : Binds X.K fd ps []) (ha : PA X (e :: es) (readS (X.kw la) X.mg W as)) (hp : ∀ cs c fs, m cs = .ok (c, fs) → c.plain = true) (hl : flagsA as = ls := by rfl) (nds : (slotsA as).Nodup := by decide) (hg : Gl X x := by rfl)
    (hdb : (x == ("__debug__" : Str)) = false := by decide) (he : starEach (e :: es) X.env = (false, eval e X.env) :: starEach es X.env := by rfl) (hpl : (backTo pos (starEach es X.env)).any (·.1) = false := by rfl) :
    PE X (.Call (.Name x p) (e :: es) [] pos) (texD (X.kw la) X.mg W (callL as m)) := PE.imp (pe_callS F hr hg hm hk hb (fun σ => passAt tk σ) ha hdb he hpl) fun σ H Q ⟨H0, O0, own, env, E, h⟩ => by
  subst hl
  refine readS_ok as H _ E ?_
  unfold callL at h
  cases q : argsC as env with
  | no => rw [q] at h; exact h
  | ex k fs => rw [q] at h; exact h
  | ok cs =>
    rw [q] at h
    simp only [R.bind_ok] at h
    intro vs H1 s1 rd
    have E1 := E.mono s1
    obtain ⟨hf, hA⟩ := rd_all E1 rd
    cases q2 : m cs with
    | no => rw [q2] at h; exact h.elim
    | ex k fs => rw [q2] at h; exact h.elim
    | ok pr =>
      obtain ⟨c, fs⟩ := pr
      rw [q2] at h
      have h : HandX (X.kw la) X.mg W H0 O0 own H σ (.ok (c, putAllB as fs env)) Q := h
      refine ⟨tO O0 own, cs, ossA own as, E1.thereO, hf, AllR_to hf hA, oss_nodup E1.nd E1.dj nds, fun a ha => ?_, ?_⟩
      · obtain ⟨j, _, _, hj⟩ := oss_mem ha
        exact .inr ⟨j, hj⟩
      · rw [q2]
        intro v H' os oss' f1 f2 f3 f4 f5 f6
        · obtain ⟨b1, b2, b3, b4⟩ := back_ok E1 rd nds (hp _ _ _ q2) f1 f2 f3 f4 f5 f6
          exact h v H' _ σ.length os (Nat.le_refl _) b4 (List.nodup_append.mp f4).1 b1 ((same_h s1).trans b2) b3
/-- the result's objects are nobody's -/
theorem EnvOk.drop {K : KW} {H0 H : Hp} {O0 : Addr → Prop} {own : Nat → List Addr} {σ : L2.St} {env : Env} (E : EnvOk K H0 H O0 own σ env) (n : Nat) (hn : σ.length ≤ n) (os : List Addr) :
    EnvOk K H0 H O0 (ownSet own n ((own n).filter fun a => decide (a ∉ os))) σ env ∧ Same (hide H (tO O0 own)) (hide H (tO O0 (ownSet own n ((own n).filter fun a => decide (a ∉ os))))) := by
  have sub : ∀ j a, a ∈ ownSet own n ((own n).filter fun a => decide (a ∉ os)) j → a ∈ own j := fun j a h => by
    unfold ownSet at h
    split at h
    · rename_i hj
      rw [hj]
      exact (List.mem_filter.mp h).1
    · exact h
  have sm : Same (hide H (tO O0 own)) (hide H (tO O0 (ownSet own n ((own n).filter fun a => decide (a ∉ os))))) := hide_same (Same.refl H) fun a o _ z => by
    rcases z with z | ⟨j, z⟩
    · exact .inl z
    · exact .inr ⟨j, sub j a z⟩
  refine ⟨⟨E.same, E.len, fun i c e => ?_, fun i a h => E.th i a (sub i a h), fun i => ?_, fun i j a hij h1 h2 => E.dj i j a hij (sub i a h1) (sub j a h2), fun i a h => E.fresh i a (sub i a h), E.o0⟩, sm⟩
  · have hi : i ≠ n := fun z => by
      rw [z, List.getElem?_eq_none (by rw [← E.len]; exact hn)] at e
      cases e
    have eo : ownSet own n ((own n).filter fun a => decide (a ∉ os)) i = own i := if_neg hi
    rw [eo]
    exact SlotR_up sm (fun _ _ _ e => e) (E.cell i c e)
  · unfold ownSet
    split
    · exact (E.nd n).sublist List.filter_sublist
    · exact E.nd i
/-- .. are slot i's -/
theorem EnvOk.take {K : KW} {H0 H : Hp} {O0 : Addr → Prop} {own : Nat → List Addr} {σ : L2.St} {env : Env} (E : EnvOk K H0 H O0 own σ env) {n i : Nat} (hn : σ.length ≤ n) (hi : i < env.length) {os : List Addr} (so : ∀ a ∈ os, a ∈ own n) (nd : os.Nodup) {c : Cell} {v : V} (r : CellR K H (tO O0 own) os c v) :
    ∃ own', EnvOk K H0 H O0 own' (σ.set i (some v)) (env.set i c) ∧ Same (hide H (tO O0 own)) (hide H (tO O0 own')) := by
  obtain ⟨E1, s1⟩ := E.drop n hn os
  have hin : i ≠ n := by have := E.len; omega
  -- the slot's new owners
  let own1 := ownSet own n ((own n).filter fun a => decide (a ∉ os))
  let own2 := ownSet own1 i os
  have mem2 : ∀ j a, a ∈ own2 j → (j = i ∧ a ∈ os) ∨ (j ≠ i ∧ a ∈ own1 j) := fun j a h => by
    have h : a ∈ ownSet own1 i os j := h
    unfold ownSet at h
    split at h
    · rename_i hj
      exact .inl ⟨hj, h⟩
    · rename_i hj
      exact .inr ⟨hj, h⟩
  have mem1 : ∀ j a, a ∈ own1 j → a ∈ own j ∧ (j = n → a ∉ os) := fun j a h => by
    have h : a ∈ ownSet own n ((own n).filter fun a => decide (a ∉ os)) j := h
    unfold ownSet at h
    split at h
    · rename_i hj
      obtain ⟨h1, h2⟩ := List.mem_filter.mp h
      exact ⟨by rw [hj]; exact h1, fun _ => by simpa using h2⟩
    · rename_i hj
      exact ⟨h, fun z => absurd z hj⟩
  have sub : ∀ a, tO O0 own2 a → tO O0 own a := fun a z => by
    rcases z with z | ⟨j, z⟩
    · exact .inl z
    · rcases mem2 j a z with ⟨_, h⟩ | ⟨_, h⟩
      · exact .inr ⟨n, so a h⟩
      · exact .inr ⟨j, (mem1 j a h).1⟩
  have sm : Same (hide H (tO O0 own)) (hide H (tO O0 own2)) := hide_same (Same.refl H) fun a o _ z => sub a z
  have notos : ∀ j a, j ≠ i → a ∈ own1 j → a ∉ os := fun j a hj h z => by
    obtain ⟨h1, h2⟩ := mem1 j a h
    by_cases hjn : j = n
    · exact h2 hjn z
    · exact E.dj j n a hjn h1 (so a z)
  refine ⟨own2, ⟨E.same, by rw [List.length_set, List.length_set]; exact E.len, fun j d e => ?_, fun j a h => ?_, fun j => ?_, fun j k a hjk h1 h2 => ?_, fun j a h => ?_, E.o0⟩, sm⟩
  · by_cases hj : j = i
    · subst hj
      rw [List.getElem?_set_self hi] at e
      cases e
      rw [List.getElem?_set_self (by rw [E.len]; exact hi)]
      have eo : own2 j = os := if_pos rfl
      rw [eo]
      exact .inr ⟨v, rfl, CellR_up sm _ _ _ (fun _ _ _ e => e) r⟩
    · rw [List.getElem?_set_ne (Ne.symm hj)] at e ⊢
      have hjn : j ≠ n := fun z => by
        rw [z, List.getElem?_eq_none (by rw [← E.len]; exact hn)] at e
        cases e
      have eo : own2 j = own j := by
        show ownSet own1 i os j = own j
        unfold ownSet
        rw [if_neg hj]
        exact if_neg hjn
      rw [eo]
      exact SlotR_up sm (fun _ _ _ e => e) (E.cell j d e)
  · rcases mem2 j a h with ⟨_, h⟩ | ⟨_, h⟩
    · exact E.th n a (so a h)
    · exact E.th j a (mem1 j a h).1
  · show (ownSet own1 i os j).Nodup
    unfold ownSet
    split
    · exact nd
    · exact E1.nd j
  · rcases mem2 j a h1 with ⟨p1, p2⟩ | ⟨p1, p2⟩
    · rcases mem2 k a h2 with ⟨r1, r2⟩ | ⟨r1, r2⟩
      · exact hjk (p1.trans r1.symm)
      · exact notos k a r1 r2 p2
    · rcases mem2 k a h2 with ⟨r1, r2⟩ | ⟨r1, r2⟩
      · exact notos j a p1 p2 r2
      · exact E1.dj j k a hjk p2 r2
  · rcases mem2 j a h with ⟨_, h⟩ | ⟨_, h⟩
    · exact E.fresh n a (so a h)
    · exact E.fresh j a (mem1 j a h).1
def R.intoX (r : R (Cell × Env)) (e : Env) (f : Cell → Env → Out) : Out := match r with
  | .no => .no
  | .ok p => f p.1 p.2
  | .ex k fs => .ex k fs e
@[simp] theorem R.intoX_ok {p : Cell × Env} {e : Env} {f : Cell → Env → Out} : (R.ok p).intoX e f = f p.1 p.2 := rfl
@[simp] theorem R.intoX_no {e : Env} {f : Cell → Env → Out} : (R.no).intoX e f = .no := rfl
@[simp] theorem R.intoX_ex {k : Str} {fs : List (Str × D)} {e : Env} {f : Cell → Env → Out} : (R.ex k fs).intoX e f = .ex k fs e := rfl
/-- f(xs, ..), for its changes -/
theorem dsx_expr (ha : PE X a (texD (X.kw la) X.mg W fx)) (hs : swapsWith a none pos.line X.env = pure false := by rfl) : PS X (.Expr a pos) (tsD (X.kw la) X.mg W fun en => (fx en).intoX en fun _ e' => .nx e') := PS.imp (ps_expr ha hs) fun D σ H ⟨H0, O0, own, env, E, h⟩ => by
  refine ⟨H0, O0, own, env, E, ?_⟩
  cases q : fx env with
  | no => simp only [q, R.intoX_no] at h; exact h
  | ex k fs => simp only [q, R.intoX_ex] at h; exact into_ex E h
  | ok pr =>
    obtain ⟨c, e'⟩ := pr
    simp only [q, R.intoX_ok] at h
    exact fun v H' own' n os _ _ _ E' s' _ => h σ H' own' E' s'
/-- x = f(xs, ..) -/
theorem dsx_set {i : Nat} (hN : X.N.Nodup) (ha : PE X a (texD (X.kw la) X.mg W fx)) (hi : X.N[i]? = some x := by rfl) (hx : Loc X.env.scope x := by first | exact Or.inl rfl | exact Or.inr rfl) (hs : swapsWith a (some (.Name x p')) pos.line X.env = pure false := by rfl) (hf : X.fn x = true ∨ X.env.scope.names.lookup x = some .local := by first | exact Or.inl rfl | exact Or.inr rfl) :
    PS X (.Assign [.Name x p'] a pos) (tsD (X.kw la) X.mg W fun en => (fx en).intoX en fun c e' => setR i e' c) := PS.imp (ps_set hN hi hx ha hs hf) fun D σ H ⟨H0, O0, own, env, E, h⟩ => by
  refine ⟨H0, O0, own, env, E, ?_⟩
  cases q : fx env with
  | no => simp only [q, R.intoX_no] at h; exact h
  | ex k fs => simp only [q, R.intoX_ex] at h; exact into_ex E h
  | ok pr =>
    obtain ⟨c, e'⟩ := pr
    simp only [q, R.intoX_ok] at h
    intro v H' own' n os hn so nd E' s' r
    unfold setR at h
    split at h
    · rename_i hi'
      obtain ⟨own2, E2, s2⟩ := E'.take hn hi' so nd r
      exact h _ H' own2 E2 (s'.trans s2)
    · exact h.elim
/-- return f(xs, ..) -/
theorem dsx_ret (ha : PE X a (texD (X.kw la) X.mg W fx)) : PS X (.Return (some a) pos) (tsD (X.kw la) X.mg W fun en => (fx en).intoX en .re) := PS.imp (ps_ret ha) fun D σ H ⟨H0, O0, own, env, E, h⟩ => by
  refine ⟨H0, O0, own, env, E, ?_⟩
  cases q : fx env with
  | no => simp only [q, R.intoX_no] at h; exact h
  | ex k fs => simp only [q, R.intoX_ex] at h; exact into_ex E h
  | ok pr =>
    obtain ⟨c, e'⟩ := pr
    simp only [q, R.intoX_ok] at h
    exact fun v H' own' n os hn so nd E' s' r => h v σ H' own' n os hn so nd E' r
/-- return e, with the slots' state -/
theorem ds_retE {fa : Env → R Cell} (ha : PE X a (teD (X.kw la) X.mg W fa)) : PS X (.Return (some a) pos) (tsD (X.kw la) X.mg W fun en => (fa en).into en fun c => .re c en) := PS.imp (ps_ret ha) fun D σ H ⟨H0, O0, own, env, E, h⟩ => by
  refine ⟨H0, O0, own, env, E, ?_⟩
  cases q : fa env with
  | no => simp only [q, R.into_no] at h; exact h
  | ex k fs => simp only [q, R.into_ex] at h; exact into_ex E h
  | ok c =>
    simp only [q, R.into_ok] at h
    intro v H' os s fr nd r
    have E' := block_ok E s fr (fun a ha => CellR_there r a ha) nd
    refine h v σ H' _ env.length os (by rw [E.len]; exact Nat.le_refl _) (fun a ha => ?_) nd E' (CellR_mono (Same.refl H') (fun a o _ z => tO_X.mp z) r)
    unfold ownX
    rw [if_pos rfl]
    exact List.mem_append_right _ ha
theorem ds_retNE : PS X (.Return none pos) (tsD (X.kw la) X.mg W fun en => .re (.d .none) en) := PS.imp ps_retN fun D σ H ⟨H0, O0, own, env, E, h⟩ => h .non σ H own σ.length [] (Nat.le_refl _) (fun a ha => by cases ha) List.nodup_nil E ⟨rfl, .non⟩
/-- xs.append(f(..)), xs in slot i -/
theorem dsx_app (i : Nat) {np ap : Pos} (pe : PE X (.Call (.Attribute (.Name x np) "append" ap) [a] [] pos) (tBM X.K "list" rAppend (tVar i) (tCons (texD (X.kw la) X.mg W fx) tNil)))
    (hs : swapsWith (.Call (.Attribute (.Name x np) "append" ap) [a] [] pos) none p.line X.env = pure false := by rfl) :
    PS X (.Expr (.Call (.Attribute (.Name x np) "append" ap) [a] [] pos) p) (tsD (X.kw la) X.mg W fun en => ownAt i en fun _ => (fx en).intoX en fun c e' => ownAt i e' fun xs => (asD c).into en fun d => if xs.length < 16777216 then .nx (e'.set i (.own (xs ++ [d]))) else .no) := PS.imp (ps_expr pe hs) fun D σ H ⟨H0, O0, own, env, E, h⟩ => by
  obtain ⟨xs0, q, h⟩ := ownAt_some h
  obtain ⟨al, vs0, e1, eo0, e20, _⟩ := own_at E q
  refine ⟨.ref al, e1, .inl ⟨rfl, vs0, SqL.of e20⟩, H0, O0, own, env, E, ?_⟩
  cases q2 : fx env with
  | no => simp only [q2, R.intoX_no] at h; exact h
  | ex k fs => simp only [q2, R.intoX_ex] at h; exact into_ex E h
  | ok pr =>
    obtain ⟨c, e'⟩ := pr
    simp only [q2, R.intoX_ok] at h
    intro v H' own' n os hn so nd E' s' r
    obtain ⟨xs, q3, h⟩ := ownAt_some h
    obtain ⟨E2, s2⟩ := E'.drop n hn os
    obtain ⟨al2, vs, e1', eo, e2, e3⟩ := own_at E2 q3
    rw [e1] at e1'
    have ea : al = al2 := by
      injection e1' with z
      injection z with z
      injection z
    subst ea
    cases q4 : asD c with
    | no => simp only [q4, R.into_no] at h; exact h.elim
    | ex k fs => exact (asD_ex q4).elim
    | ok d =>
      simp only [q4, R.into_ok] at h
      split at h
      · rename_i hl
        have hd : Dp X.K (hide H' (tO O0 (ownSet own' n ((own' n).filter fun a => decide (a ∉ os))))) v d := by
          refine CellR_dat (K := X.kw la) (os := os) (c := c) (fun a ha z => ?_) (CellR_mono (Same.refl H') (fun a o _ z => ?_) r) q4
          · rcases z with z | ⟨j, z⟩
            · obtain ⟨o, w⟩ := E'.o0 a z
              rw [E'.fresh n a (so a ha)] at w
              cases w
            · unfold ownSet at z
              split at z
              · have := (List.mem_filter.mp z).2
                simp at this
                exact this ha
              · rename_i hj
                exact E'.dj j n a hj z (so a ha)
          · rcases z with z | z
            · rcases z with z | ⟨j, z⟩
              · exact .inl z
              · unfold ownSet at z
                split at z
                · exact .inr ⟨n, (List.mem_filter.mp z).1⟩
                · exact .inr ⟨j, z⟩
            · exact .inr ⟨n, so a z⟩
        obtain ⟨E3, s3⟩ := own_upd E2 q3 e1 eo e2 (DpAll_append e3 (.cons hd .nil))
        exact ⟨al, vs, v, rfl, rfl, e2, by rw [DpAll_len e3, sizeLine_eq]; exact hl, h _ _ _ E3 ((s'.trans s2).trans s3)⟩
      · exact h.elim
end
end DL
/-! ## DL, part 13: calls that change a list, handlers with suites -/
namespace DL
open PySem PySem.Spec PyProof.Rows L2
open Classical in
noncomputable def allO (F : Addr → Addr → Out) : Out := if h : ∃ r, ∀ a d, F a d = r then h.choose else .no
theorem allO_eq {F : Addr → Addr → Out} {r : Out} (h : ∀ a d, F a d = r) : allO F = r := by
  have e : ∃ r, ∀ a d, F a d = r := ⟨r, h⟩
  unfold allO
  rw [dif_pos e, ← e.choose_spec 0 0, h 0 0]
theorem allO_at {F : Addr → Addr → Out} (n : allO F ≠ .no) (a d : Addr) : F a d = allO F := by
  unfold allO at n ⊢
  split
  · rename_i e
    exact e.choose_spec a d
  · rename_i e
    rw [dif_neg e] at n
    exact absurd rfl n
section
variable {X : Cx} {la : Nat → Addr} {W : WX} {e a b c : Expr} {es : List Expr} {fa : Env → R Cell} {ga : Env → R (List D)} {g : Env → Out} {pos p : Pos} {x f : Str} {st : Stmt} {k n : Nat} {ff : Addr} {fd : FuncData} {ps : List Str} {m : Addr → List D → List D → R (List D)}
/-- e.f of the exception that a suite has caught -/
def excD (i : Nat) (f : Str) (a d : Addr) (en : Env) : R Cell := match en[i]? with
  | some (.exc a' d' g y) => if a' = a ∧ d' = d ∧ g = f then .ok (.d y) else .no
  | _ => .no
/-- behind a suite its name is gone -/
def gone (i : Nat) : Out → Out
  | .nx e => .nx (e.set i .un)
  | .bk e => .bk (e.set i .un)
  | .ct e => .ct (e.set i .un)
  | .rt c => .rt c
  | _ => .no
/-- try: body / except X as e: suite -/
noncomputable def tryS (i : Nat) (x f : Str) (o : Out) (gs : Addr → Addr → Env → Out) : Out := match o with
  | .ex k fs e => if k = x ∧ i < e.length then (match fs with
      | [(g, y)] => if g = f then allO (fun a d => gone i (gs a d (e.set i (.exc a d f y)))) else .no
      | _ => .no) else .no
  | .rt c => .rt c
  | .re c e => .re c e
  | .nx e => .nx e
  | _ => .no
theorem de_exc {i : Nat} {n : Str} {C a d : Addr} {oe : Obj} {pn : List (Addr × Obj)} {np : Pos} (TX : XfC X.K C) (hno : PySem.W.findIn X.K (.ref C) f = some none) (hz : Zc (.ref C) (some d) oe) (hd : ∃ vs, oe.data = .fields vs)
    (hi : X.N[i]? = some n := by rfl) (hln : Vis X.env.scope n := by first | exact Or.inl rfl | exact Or.inr (Or.inl rfl) | exact Or.inr (Or.inr rfl)) (hdn : (n == ("__debug__" : Str)) = false := by decide) (hcn : (n == ("__classdict__" : Str)) = false := by decide)
    (hat : attributeBase (.Name n np) f X.env (eval (.Name n np) X.env) = eval (.Name n np) X.env := by rfl) :
    PE (X.suite a ((a, oe) :: pn)) (.Attribute (.Name n np) f pos) (teD (X.kw la) X.mg W (excD i f a d)) := PE.imp (pe_xf (C := C) TX hno hz hd (pe_var (i := i) hi hln hdn hcn) hat) fun σ H Q ⟨H0, O0, own, env, E, h⟩ => by
  unfold excD at h
  split at h
  · rename_i a' d' g y q
    split at h
    · rename_i hh
      obtain ⟨rfl, rfl, rfl⟩ := hh
      obtain ⟨v, e1, z, rfl, e2, e3, e4⟩ := E.get q (fun z => by cases z)
      refine ⟨.ref a', e1, rfl, rfl, d', [(g, z)], z, rfl, (hide_eq.mp e3).2, by simp [List.lookup], ?_⟩
      exact h z H [] (Same.refl H) (fun a ha => by cases ha) List.nodup_nil ⟨rfl, Dp_mono (hide_same (Same.refl H) fun a o _ z => by
        rcases z with z | z
        · exact z
        · cases z) _ _ e4⟩
    · exact h.elim
  · exact h.elim
end
section
variable {X : Cx} {la : Nat → Addr} {W : WX} {g : Env → Out} {pos p : Pos} {x f : Str} {st : Stmt}
theorem EnvOk.exc {K : KW} {H0 H : Hp} {O0 : Addr → Prop} {own : Nat → List Addr} {σ : L2.St} {env : Env} {i : Nat} {a d : Addr} {y : V} {z : D} (E : EnvOk K H0 H O0 own σ env) (hi : i < env.length) (e : hide H (tO O0 own) d = some (.xd [(f, y)])) (r : Dp K (hide H (tO O0 own)) y z) :
    EnvOk K H0 H O0 (ownSet own i []) (σ.set i (some (.ref a))) (env.set i (.exc a d f z)) ∧ Same (hide H (tO O0 own)) (hide H (tO O0 (ownSet own i []))) := by
  have sm : Same (hide H (tO O0 own)) (hide H (tO O0 (ownSet own i []))) := hide_set (fun a o e _ => e) (fun a ha => by cases ha)
  exact ⟨E.set (c := .exc a d f z) (x := some (.ref a)) (os := []) hi E.same (fun _ _ e _ => e) (fun _ _ _ _ _ e => e) (fun a ha => by cases ha) (fun a ha => by cases ha) (fun a ha => by cases ha) List.nodup_nil (.inr ⟨.ref a, rfl, y, rfl, rfl, sm _ _ e, Dp_mono sm _ _ r⟩), sm⟩
theorem EnvOk.gone {K : KW} {H0 H : Hp} {O0 : Addr → Prop} {own : Nat → List Addr} {σ : L2.St} {env : Env} {i : Nat} (E : EnvOk K H0 H O0 own σ env) :
    ∃ own', EnvOk K H0 H O0 own' (σ.set i none) (env.set i .un) ∧ Same (hide H (tO O0 own)) (hide H (tO O0 own')) := by
  by_cases hi : i < env.length
  · exact ⟨ownSet own i [], E.set (c := .un) (x := none) (os := []) hi E.same (fun _ _ e _ => e) (fun _ _ _ _ _ e => e) (fun a ha => by cases ha) (fun a ha => by cases ha) (fun a ha => by cases ha) List.nodup_nil (.inl rfl), hide_set (fun a o e _ => e) (fun a ha => by cases ha)⟩
  · have el := E.len
    rw [List.set_eq_of_length_le (by omega), List.set_eq_of_length_le (by omega)]
    exact ⟨own, E, Same.refl _⟩
theorem ds_tryS {i : Nat} {n : Str} {body suite : List Stmt} {b₀ : Stmt} {gs : Addr → Addr → Env → Out} {np hp2 p2 : Pos} (T : Exc1 (X.kw la) X.mg x f st) (hN : X.N.Nodup)
    (hb : ∀ (W : WX) (pn : List (Addr × Obj)) (xe : Value → Shared → Prop), Takes (X.tr pn xe) W → PassesOwn (model X.prog X.w) X.A X.env xe → PSs (X.tr pn xe) body (tsD (X.kw la) X.mg W g))
    (hsu : ∀ (C a d : Addr) (oe : Obj) (pn : List (Addr × Obj)), XfC X.K C → PySem.W.findIn X.K (.ref C) f = some none → Zc (.ref C) (some d) oe → (∃ vs, oe.data = .fields vs) → PSs (X.suite a ((a, oe) :: pn)) (b₀ :: suite) (tsD (X.kw la) X.mg (fun _ _ _ _ => False) (gs a d)))
    (hs : X.stack = X.env :: X.outer := by rfl) (hf : X.env.frame = some X.env.locals := by rfl) (hi : X.N[i]? = some n := by rfl) (hln : X.env.kindOf n = some .local := by rfl) (hg : Gl X x := by rfl) (hdb : (x == ("__debug__" : Str)) = false := by decide) :
    PS X (.Try body [.ExceptHandler (some (.Name x np)) (some n) (b₀ :: suite) hp2] [] [] p2) (tsD (X.kw la) X.mg W fun en => tryS i x f (g en) gs) := by
  obtain ⟨C, fI, fd, q, hm, TO, TX, hno, iC, tI, F, bI, te⟩ := T.ex
  refine PS.imp (ps_try_as (c := .ref C) (i := i) (Wout := fun _ _ _ _ => False) (ts := fun a cls d D σ H => cls = .ref C ∧ ∃ d', d = some d' ∧ tsD (X.kw la) X.mg (fun _ _ _ _ => False) (gs a d') D σ H) hs hf hN hi hln ⟨hg, hdb, .inl hm⟩ takes0 hb (fun a oe cls d pn hz hd => ⟨fun pins s σ H D I h => ?_⟩)) fun D σ H ⟨H0, O0, own, env, E, h⟩ => ?_
  · obtain ⟨rfl, d', rfl, h⟩ := h
    exact (hsu C a d' oe pn TX hno hz hd).run pins s σ H D I h
  · refine ⟨H0, O0, own, env, E, ?_⟩
    cases q2 : g env with
    | no => simp only [q2, tryS] at h; exact h
    | bk e => simp only [q2, tryS] at h; exact h.elim
    | ct e => simp only [q2, tryS] at h; exact h.elim
    | rt c => simp only [q2, tryS] at h; exact h
    | re c e => simp only [q2, tryS] at h; exact h
    | nx e => simp only [q2, tryS] at h; exact h
    | ex k fs e =>
      simp only [q2, tryS] at h
      split at h
      · rename_i ek
        obtain ⟨ek, hil⟩ := ek
        subst ek
        split at h
        · rename_i g' d'
          split at h
          · rename_i eg
            subst eg
            intro σ' H' own' cls dd E' s r
            obtain ⟨⟨C', hC, rfl⟩, r2⟩ := r
            have eC : C' = C := by
              rw [hm] at hC
              cases hC
              rfl
            subst eC
            rcases r2 with ⟨z, _⟩ | ⟨d2, vs, rfl, ed, r3⟩
            · cases z
            · cases vs with
              | nil => exact r3.elim
              | cons p0 vs =>
                cases vs with
                | cons _ _ => exact r3.2.2.elim
                | nil =>
                  obtain ⟨e1, e2, _⟩ := r3
                  obtain ⟨g1, v1⟩ := p0
                  have e1 : g1 = g' := e1
                  subst e1
                  refine ⟨true, te, fun _ al hal => ⟨rfl, d2, rfl, ?_⟩, fun z => by cases z⟩
                  obtain ⟨E2, sm⟩ := E'.exc (a := al) hil ed e2
                  refine ⟨H0, O0, _, _, E2, ?_⟩
                  have nn : allO (fun a d => DL.gone i (gs a d (e.set i (.exc a d g1 d')))) ≠ .no := fun z => by
                    rw [z] at h
                    exact h
                  rw [← allO_at nn al d2] at h
                  have h := OutH.mono (s.trans sm) h
                  cases q5 : gs al d2 (e.set i (.exc al d2 g1 d')) with
                  | no => rw [q5] at h; exact h
                  | ex k fs e => rw [q5] at h; exact h.elim
                  | rt c => rw [q5] at h; exact h
                  | re c e => rw [q5] at h; exact h.elim
                  | nx e4 =>
                    rw [q5] at h
                    intro σ4 H4 own4 E4 s4
                    obtain ⟨own5, E5, s5⟩ := E4.gone (i := i)
                    exact h _ _ own5 E5 (s4.trans s5)
                  | bk e4 =>
                    rw [q5] at h
                    intro σ4 H4 own4 E4 s4
                    obtain ⟨own5, E5, s5⟩ := E4.gone (i := i)
                    exact h _ _ own5 E5 (s4.trans s5)
                  | ct e4 =>
                    rw [q5] at h
                    intro σ4 H4 own4 E4 s4
                    obtain ⟨own5, E5, s5⟩ := E4.gone (i := i)
                    exact h _ _ own5 E5 (s4.trans s5)
          · exact h.elim
        · exact h.elim
      · exact h.elim
end
end DL
/-! ## DL, part 16: dicts over the heap -/
namespace DL
open PySem PySem.Spec PyProof.Rows L2
/-! ### keys -/
def Value.isBoolV : Value → Bool
  | .bool _ => true
  | _ => false
/-- whole numbers, texts, None: no bools -/
def flatIs (k : Leaf) (v : Value) : Bool := Leaf.isOf k v && !Value.isBoolV v
def flatKind (P : Program) (w : World) : KeyKind P w Leaf where
  is := flatIs
  hash := fun k => k.key.hash w
  inj := fun v a b ha hb => (leafKind P w).inj v a b (by unfold flatIs at ha; rw [Bool.and_eq_true] at ha; exact ha.1) (by unfold flatIs at hb; rw [Bool.and_eq_true] at hb; exact hb.1)
  byValue := fun k v h => (leafKind P w).byValue k v (by unfold flatIs at h; rw [Bool.and_eq_true] at h; exact h.1)
  pyHash := fun hv h => (leafKind P w).pyHash (by unfold flatIs at hv; rw [Bool.and_eq_true] at hv; exact hv.1) h
  eqBool := fun hu hv h => (leafKind P w).eqBool (by unfold flatIs at hu; rw [Bool.and_eq_true] at hu; exact hu.1) (by unfold flatIs at hv; rw [Bool.and_eq_true] at hv; exact hv.1) h
  «strs» := fun k x t v h => by
    have h' : Leaf.isOf k (.str x t) = true := by unfold flatIs at h; rw [Bool.and_eq_true] at h; exact h.1
    have e : Leaf.isOf k v = v.isStr x := (leafKind P w).strs k x t v h'
    unfold flatIs
    rw [e]
    cases v <;> first | rfl | (simp [Value.isBoolV])
section
variable {X : Cx} {pins : List (Addr × Obj)} {σ : L2.St} {H : Hp} {s : Shared}
mutual
/-- data that is a key, as the library's keys -/
theorem key_is (I : Inv X pins σ H s) : ∀ (d : D) (v : V) (u : Value) (k : NestedKey), Dp X.K H v d → RelV v u → keyOf d = some k → NestedIs s.heap k u
  | .none, _, _, _, h, r, e => by cases h; cases r; cases e; exact .none
  | .bool b, _, _, _, h, r, e => by cases h; cases r; cases e; exact .bool rfl
  | .int i, _, _, _, h, r, e => by
    cases h
    obtain ⟨t, rfl⟩ := r
    cases e
    exact .int i t
  | .str x, _, _, _, h, r, e => by
    cases h
    obtain ⟨t, rfl⟩ := r
    cases e
    exact .text x t
  | .tuple ds, _, _, k, h, r, e => by
    cases h with
    | tup hs ha =>
      cases r
      obtain ⟨its, r1, ⟨o, e1, e2, n, e3⟩, _⟩ := I.tuple hs
      unfold keyOf at e
      cases q : keysOf ds with
      | none => rw [q] at e; cases e
      | some ks =>
        rw [q] at e
        cases e
        exact .tup e1 e2 e3 (by rw [List.toList_toArray]; exact keys_are I ds _ _ ks ha r1 q)
  | .list _, _, _, _, _, _, e => by cases e
  | .dict _, _, _, _, _, _, e => by cases e
theorem keys_are (I : Inv X pins σ H s) : ∀ (ds : List D) (vs : List V) (us : List Value) (ks : List NestedKey), DpAll X.K H vs ds → Vals vs us → keysOf ds = some ks → NestedAll s.heap ks us
  | [], _, _, _, h, r, e => by cases h; cases r; cases e; exact .nil
  | d :: ds, _, _, ks, h, r, e => by
    cases h with
    | cons h1 h2 =>
      cases r with
      | cons r1 r2 =>
        unfold keysOf at e
        cases q1 : keyOf d with
        | none => rw [q1] at e; cases e
        | some k =>
          cases q2 : keysOf ds with
          | none => rw [q1, q2] at e; cases e
          | some ks' =>
            rw [q1, q2] at e
            cases e
            exact .cons (key_is I d _ _ k h1 r1 q1) (keys_are I ds _ _ ks' h2 r2 q2)
end
theorem keyTop_of {x : D} {k : NestedKey} (h : keyTop x = some k) : keyOf x = some k ∧ k.depth ≤ 8 ∧ ∀ b, x ≠ .bool b := by
  unfold keyTop at h
  split at h
  · cases h
  · rename_i x' nb
    cases q : keyOf x with
    | none => rw [q] at h; cases h
    | some k' =>
      rw [q] at h
      dsimp only at h
      split at h
      · rename_i hd
        cases h
        exact ⟨rfl, hd, fun b e => nb b e⟩
      · cases h
end
/-- a flat key as a leaf -/
def leafN : NestedKey → Leaf
  | .none => .none
  | .num i => .num i
  | .text x => .text x
  | .tup _ => .none
def keyN (x : D) : NestedKey := (keyTop x).getD .none
/-- a flat key -/
theorem flat_key {x : D} {k : NestedKey} (h : keyTop x = some k) (f : isTup x = false) : (leafN k).key = k ∧ ((x = .none ∧ k = .none) ∨ (∃ i, x = .int i ∧ k = .num i) ∨ ∃ s, x = .str s ∧ k = .text s) := by
  obtain ⟨h1, h2, h3⟩ := keyTop_of h
  cases x with
  | none => cases h1; exact ⟨rfl, .inl ⟨rfl, rfl⟩⟩
  | bool b => exact absurd rfl (h3 b)
  | int i => cases h1; exact ⟨rfl, .inr (.inl ⟨i, rfl, rfl⟩)⟩
  | str s => cases h1; exact ⟨rfl, .inr (.inr ⟨s, rfl, rfl⟩)⟩
  | tuple _ => cases f
  | list _ => cases h1
  | dict _ => cases h1
theorem flat_is {K : PySem.W.Frag} {H : Hp} {x : D} {k : NestedKey} {v : V} {u : Value} (h : keyTop x = some k) (f : isTup x = false) (d : Dp K H v x) (r : RelV v u) : flatIs (leafN k) u = true := by
  obtain ⟨_, ⟨rfl, rfl⟩ | ⟨i, rfl, rfl⟩ | ⟨s, rfl, rfl⟩⟩ := flat_key h f
  · cases d; cases r; rfl
  · cases d
    obtain ⟨t, rfl⟩ := r
    show (decide (i = i) && true) = true
    simp
  · cases d
    obtain ⟨t, rfl⟩ := r
    show (Value.isStrOf s (.str s t) && true) = true
    simp [Value.isStrOf]
/-- .. the other way -/
theorem is_flat {K : PySem.W.Frag} {H : Hp} {x : D} {k : NestedKey} {u : Value} (h : keyTop x = some k) (f : isTup x = false) (e : flatIs (leafN k) u = true) : ∃ v, RelV v u ∧ Dp K H v x := by
  unfold flatIs at e
  rw [Bool.and_eq_true] at e
  obtain ⟨e1, e2⟩ := e
  obtain ⟨_, ⟨rfl, rfl⟩ | ⟨i, rfl, rfl⟩ | ⟨s, rfl, rfl⟩⟩ := flat_key h f
  · refine ⟨.non, ?_, .non⟩
    cases u <;> first | rfl | exact absurd e1 Bool.false_ne_true
  · refine ⟨.int i, ?_, .int i⟩
    cases u with
    | int j t =>
      have e : j = i := of_decide_eq_true e1
      subst e
      exact ⟨t, rfl⟩
    | bool b => cases e2
    | _ => exact absurd e1 Bool.false_ne_true
  · refine ⟨.str s, ?_, .str s⟩
    exact Value.isStrOf_shape (show Value.isStrOf s u = true from e1)
theorem leaf_inj {x y : D} {k l : NestedKey} (hx : keyTop x = some k) (fx : isTup x = false) (hy : keyTop y = some l) (fy : isTup y = false) (e : leafN k = leafN l) : k = l := by
  have h1 := (flat_key hx fx).1
  have h2 := (flat_key hy fy).1
  rw [← h1, ← h2, e]
/-! ### tables -/
def tabF : List DictEntry → List (D × D) → List (Leaf × Value)
  | e :: es, p :: ps => (leafN (keyN p.1), e.val) :: tabF es ps
  | _, _ => []
def addrV : Value → Addr
  | .ref a => a
  | _ => 0
def tabT : List DictEntry → List (D × D) → List (NestedKey × Addr × Value)
  | e :: es, p :: ps => (keyN p.1, addrV e.key, e.val) :: tabT es ps
  | _, _ => []
theorem keyN_of {x : D} {k : NestedKey} (h : keyTop x = some k) : keyN x = k := by
  unfold keyN
  rw [h]; rfl
theorem EntsR_len {K : KW} {G : Hp} : ∀ {es : List DictEntry} {ps : List (D × D)}, EntsR K G es ps → es.length = ps.length
  | [], [], _ => rfl
  | _ :: _, _ :: _, ⟨_, r⟩ => by rw [List.length_cons, List.length_cons, EntsR_len r]
  | [], _ :: _, r => r.elim
  | _ :: _, [], r => r.elim
section
variable {K : KW} {G : Hp}
theorem tabF_len : ∀ {es : List DictEntry} {ps : List (D × D)}, EntsR K G es ps → (tabF es ps).length = ps.length
  | [], [], _ => rfl
  | _ :: _, _ :: _, ⟨_, r⟩ => by
    show (tabF _ _).length + 1 = _ + 1
    rw [tabF_len r]
  | [], _ :: _, r => r.elim
  | _ :: _, [], r => r.elim
theorem tabT_len : ∀ {es : List DictEntry} {ps : List (D × D)}, EntsR K G es ps → (tabT es ps).length = ps.length
  | [], [], _ => rfl
  | _ :: _, _ :: _, ⟨_, r⟩ => by
    show (tabT _ _).length + 1 = _ + 1
    rw [tabT_len r]
  | [], _ :: _, r => r.elim
  | _ :: _, [], r => r.elim
/-- what the table holds at a flat key -/
theorem tabF_at : ∀ {es : List DictEntry} {ps : List (D × D)} {x : D} {k : NestedKey}, EntsR K G es ps → (∀ p ∈ ps, isTup p.1 = false) → keyTop x = some k → isTup x = false →
    (dget ps k = none ∧ valueAt (tabF es ps) (leafN k) = none) ∨ ∃ y u v, dget ps k = some y ∧ valueAt (tabF es ps) (leafN k) = some u ∧ RelV v u ∧ Dp K G v y
  | [], [], _, _, _, _, _, _ => .inl ⟨rfl, rfl⟩
  | e :: es, p :: ps, x, k, ⟨⟨xv, yv, kk, h1, h2, h3, h4, h5, h6⟩, r⟩, fl, hx, fx => by
    have fp := fl p List.mem_cons_self
    unfold dget valueAt tabF
    rw [List.find?_cons, List.find?_cons]
    by_cases hk : kk = k
    · subst hk
      rw [decide_eq_true h5]
      have e2 : decide (((leafN (keyN p.1), e.val) : Leaf × Value).1 = leafN kk) = true := by
        rw [keyN_of h5]
        exact decide_eq_true rfl
      rw [e2]
      exact .inr ⟨p.2, e.val, yv, rfl, rfl, h2, h4⟩
    · have e1 : decide (keyTop p.1 = some k) = false := decide_eq_false fun z => by
        rw [h5] at z
        cases z
        exact hk rfl
      have e2 : decide (((leafN (keyN p.1), e.val) : Leaf × Value).1 = leafN k) = false := decide_eq_false fun z => by
        have z : leafN (keyN p.1) = leafN k := z
        rw [keyN_of h5] at z
        exact hk (leaf_inj h5 fp hx fx z)
      rw [e1, e2]
      exact tabF_at r (fun q hq => fl q (List.mem_cons_of_mem _ hq)) hx fx
  | [], _ :: _, _, _, r, _, _, _ => r.elim
  | _ :: _, [], _, _, r, _, _, _ => r.elim
/-- .. at a tuple -/
theorem tabT_at : ∀ {es : List DictEntry} {ps : List (D × D)} {k : NestedKey}, EntsR K G es ps →
    (dget ps k = none ∧ atKey (tabT es ps) k = none) ∨ ∃ y b u v, dget ps k = some y ∧ atKey (tabT es ps) k = some (b, u) ∧ RelV v u ∧ Dp K G v y
  | [], [], _, _ => .inl ⟨rfl, rfl⟩
  | e :: es, p :: ps, k, ⟨⟨xv, yv, kk, h1, h2, h3, h4, h5, h6⟩, r⟩ => by
    unfold dget atKey tabT
    rw [List.find?_cons, List.find?_cons]
    by_cases hk : kk = k
    · subst hk
      rw [decide_eq_true h5]
      have e2 : decide (((keyN p.1, addrV e.key, e.val) : NestedKey × Addr × Value).1 = kk) = true := by
        rw [keyN_of h5]
        exact decide_eq_true rfl
      rw [e2]
      exact .inr ⟨p.2, addrV e.key, e.val, yv, rfl, rfl, h2, h4⟩
    · have e1 : decide (keyTop p.1 = some k) = false := decide_eq_false fun z => by
        rw [h5] at z
        cases z
        exact hk rfl
      have e2 : decide (((keyN p.1, addrV e.key, e.val) : NestedKey × Addr × Value).1 = k) = false := decide_eq_false fun z => by
        have z : keyN p.1 = k := z
        rw [keyN_of h5] at z
        exact hk z
      rw [e1, e2]
      exact tabT_at r
  | [], _ :: _, _, r => r.elim
  | _ :: _, [], _, r => r.elim
theorem tabF_pairs {P : Program} {w : World} (hw : K.w = w) : ∀ {es : List DictEntry} {ps : List (D × D)}, EntsR K G es ps → (∀ p ∈ ps, isTup p.1 = false) → Pairs (flatKind P w) es (tabF es ps) ∧ ∀ e ∈ es, ∃ k, (flatKind P w).is k e.key = true ∧ e.hash = (flatKind P w).hash k
  | [], [], _, _ => ⟨.nil, fun _ h => by cases h⟩
  | e :: es, p :: ps, ⟨⟨xv, yv, kk, h1, h2, h3, h4, h5, h6⟩, r⟩, fl => by
    have fp := fl p List.mem_cons_self
    obtain ⟨i1, i2⟩ := tabF_pairs hw r (fun q hq => fl q (List.mem_cons_of_mem _ hq))
    have f1 : flatIs (leafN kk) e.key = true := flat_is h5 fp h3 h1
    refine ⟨.cons (by rw [keyN_of h5]; exact f1) rfl i1, fun d hd => ?_⟩
    cases hd with
    | head =>
      refine ⟨leafN kk, f1, ?_⟩
      show e.hash = (leafN kk).key.hash w
      rw [(flat_key h5 fp).1, h6, hw]
    | tail _ hd => exact i2 d hd
  | [], _ :: _, r, _ => r.elim
  | _ :: _, [], r, _ => r.elim
theorem tabF_keys : ∀ {es : List DictEntry} {ps : List (D × D)}, EntsR K G es ps → (tabF es ps).map (·.1) = ps.map fun p => leafN (keyN p.1)
  | [], [], _ => rfl
  | _ :: _, _ :: _, ⟨_, r⟩ => by
    show _ :: (tabF _ _).map (·.1) = _ :: _
    rw [tabF_keys r]
  | [], _ :: _, r => r.elim
  | _ :: _, [], r => r.elim
theorem tabT_keys : ∀ {es : List DictEntry} {ps : List (D × D)}, EntsR K G es ps → (tabT es ps).map (·.1) = ps.map fun p => keyN p.1
  | [], [], _ => rfl
  | _ :: _, _ :: _, ⟨_, r⟩ => by
    show _ :: (tabT _ _).map (·.1) = _ :: _
    rw [tabT_keys r]
  | [], _ :: _, r => r.elim
  | _ :: _, [], r => r.elim
theorem nodup_map {α β : Type} {f : α → β} : ∀ {l : List α}, l.Nodup → (∀ a ∈ l, ∀ b ∈ l, f a = f b → a = b) → (l.map f).Nodup
  | [], _, _ => List.nodup_nil
  | a :: l, h, inj => by
    rw [List.nodup_cons] at h
    rw [List.map_cons, List.nodup_cons]
    refine ⟨fun z => ?_, nodup_map h.2 fun x hx y hy => inj x (List.mem_cons_of_mem _ hx) y (List.mem_cons_of_mem _ hy)⟩
    obtain ⟨b, hb, e⟩ := List.mem_map.mp z
    rw [inj b (List.mem_cons_of_mem _ hb) a List.mem_cons_self e] at hb
    exact h.1 hb
theorem keys_nodup {ps : List (D × D)} (h : KeysOk ps) : (ps.map fun p => keyN p.1).Nodup := by
  have e : (ps.map fun p => keyN p.1) = (ps.map fun p => keyTop p.1).map (·.getD .none) := by
    rw [List.map_map]; rfl
  rw [e]
  refine nodup_map h.2.1 fun a ha b hb e => ?_
  obtain ⟨p, hp, rfl⟩ := List.mem_map.mp ha
  obtain ⟨q, hq, rfl⟩ := List.mem_map.mp hb
  obtain ⟨k, hk⟩ := h.1 p hp
  obtain ⟨l, hl⟩ := h.1 q hq
  rw [hk, hl] at e ⊢
  have e : k = l := e
  rw [e]
theorem flat_nodup {ps : List (D × D)} (h : KeysOk ps) (fl : ∀ p ∈ ps, isTup p.1 = false) : (ps.map fun p => leafN (keyN p.1)).Nodup := by
  have e : (ps.map fun p => leafN (keyN p.1)) = (ps.map fun p => keyTop p.1).map (fun o => leafN (o.getD .none)) := by
    rw [List.map_map]; rfl
  rw [e]
  refine nodup_map h.2.1 fun a ha b hb e => ?_
  obtain ⟨p, hp, rfl⟩ := List.mem_map.mp ha
  obtain ⟨q, hq, rfl⟩ := List.mem_map.mp hb
  obtain ⟨k, hk⟩ := h.1 p hp
  obtain ⟨l, hl⟩ := h.1 q hq
  rw [hk, hl] at e ⊢
  have e : leafN k = leafN l := e
  rw [leaf_inj hk (fl p hp) hl (fl q hq) e]
theorem tabT_ents {P : Program} {w : World} (hw : K.w = w) : ∀ {es : List DictEntry} {ps : List (D × D)}, EntsR K G es ps → (∀ p ∈ ps, isTup p.1 = true) → es = (tabT es ps).map (entryOfKey (nestedKind P w))
  | [], [], _, _ => rfl
  | e :: es, p :: ps, ⟨⟨xv, yv, kk, h1, h2, h3, h4, h5, h6⟩, r⟩, tl => by
    have i1 := tabT_ents (P := P) hw r (fun q hq => tl q (List.mem_cons_of_mem _ hq))
    have tp := tl p List.mem_cons_self
    show e :: es = entryOfKey (nestedKind P w) (keyN p.1, addrV e.key, e.val) :: (tabT es ps).map (entryOfKey (nestedKind P w))
    rw [← i1]
    congr 1
    obtain ⟨hsh, ky, vl⟩ := e
    obtain ⟨p1, p2⟩ := p
    cases p1 with
    | tuple xs =>
      obtain ⟨a, vs, rfl, _, _⟩ := Dp_tup h3
      have ek : ky = .ref a := h1
      subst ek
      unfold entryOfKey
      show DictEntry.mk hsh (.ref a) vl = ⟨(keyN (.tuple xs)).hash w, .ref a, vl⟩
      rw [keyN_of h5, ← hw]
      have h6 : hsh = kk.hash K.w := h6
      rw [h6]
    | _ => cases tp
  | [], _ :: _, r, _ => r.elim
  | _ :: _, [], r, _ => r.elim
theorem kindOk_all {x : D} {ps : List (D × D)} (h : kindOk x ps = true) : ∀ p ∈ ps, isTup p.1 = isTup x := fun p hp => by
  unfold kindOk at h
  rw [List.all_eq_true] at h
  simpa using h p hp
theorem asKey_of {x : D} {ps : List (D × D)} {k : NestedKey} (h : asKey x ps = some k) : keyTop x = some k ∧ ∀ p ∈ ps, isTup p.1 = isTup x := by
  unfold asKey at h
  split at h
  · rename_i k' hk
    split at h
    · rename_i ho
      cases h
      exact ⟨hk, kindOk_all ho⟩
    · cases h
  · cases h
end
section
variable {X : Cx} {la : Nat → Addr} {pins : List (Addr × Obj)} {σ : L2.St} {H : Hp} {s : Shared} {a : Addr} {es : List DictEntry} {kvs : List (D × D)}
theorem dic_at (I : Inv X pins σ H s) (e : H a = some (.ext (dicH a es))) : (a == sysModules) = false ∧ ∃ o ep, s.heap.get? a = some o ∧ o.ExactDict ∧ o.data = .dict es.toArray ep := (I.hok a _ e).1
theorem dic_flat (I : Inv X pins σ H s) (e : H a = some (.ext (dicH a es))) (r : EntsR (X.kw la) H es kvs) (ok : KeysOk kvs) (fl : ∀ p ∈ kvs, isTup p.1 = false) : s.heap.DictOf (flatKind X.prog X.w) a (tabF es kvs) := by
  obtain ⟨_, o, ep, h1, h2, h3⟩ := dic_at I e
  obtain ⟨p1, p2⟩ := tabF_pairs (P := X.prog) (w := X.w) rfl r fl
  refine ⟨o, es.toArray, ep, h1, h2, h3, fun d hd => p2 d (by simpa using hd), by simpa using p1, ?_⟩
  rw [tabF_keys r]
  exact flat_nodup ok fl
theorem ents_is (I : Inv X pins σ H s) : ∀ {es : List DictEntry} {ps : List (D × D)}, EntsR (X.kw la) H es ps → (∀ p ∈ ps, isTup p.1 = true) → ∀ x ∈ tabT es ps, (nestedKind X.prog X.w).is s.heap x.1 x.2.1
  | [], [], _, _, _, h => by cases h
  | e :: es, p :: ps, ⟨⟨xv, yv, kk, h1, h2, h3, h4, h5, h6⟩, r⟩, tl, x, h => by
    have tp := tl p List.mem_cons_self
    cases h with
    | head =>
      obtain ⟨k1, k2, _⟩ := keyTop_of h5
      show NestedIs s.heap (keyN p.1) (.ref (addrV e.key)) ∧ (keyN p.1).depth ≤ 8
      rw [keyN_of h5]
      refine ⟨?_, k2⟩
      have w := key_is I p.1 xv e.key kk h3 h1 k1
      cases q : p.1 with
      | tuple xs =>
        rw [q] at h3
        obtain ⟨b, vs, rfl, _, _⟩ := Dp_tup h3
        have ek : e.key = .ref b := h1
        rw [ek] at w ⊢
        exact w
      | _ => rw [q] at tp; cases tp
    | tail _ h => exact ents_is I r (fun q hq => tl q (List.mem_cons_of_mem _ hq)) x h
  | [], _ :: _, r, _, _, _ => r.elim
  | _ :: _, [], r, _, _, _ => r.elim
theorem dic_tup (I : Inv X pins σ H s) (e : H a = some (.ext (dicH a es))) (r : EntsR (X.kw la) H es kvs) (ok : KeysOk kvs) (tl : ∀ p ∈ kvs, isTup p.1 = true) : s.heap.DictOfH (nestedKind X.prog X.w) a (tabT es kvs) := by
  obtain ⟨_, o, ep, h1, h2, h3⟩ := dic_at I e
  refine ⟨o, es.toArray, ep, h1, h2, h3, ?_, ents_is I r tl, ?_⟩
  · rw [List.toList_toArray]
    exact tabT_ents rfl r tl
  · rw [tabT_keys r]
    exact keys_nodup ok
/-- what is asked of a key and a dict -/
structure DAt (K : KW) (H : Hp) (x y : V) (a : Addr) (es : List DictEntry) (kvs : List (D × D)) (xd : D) (k : NestedKey) : Prop where
  ref : y = .ref a
  at_ : H a = some (.ext (dicH a es))
  ents : EntsR K H es kvs
  ok : KeysOk kvs
  key : Dp K H x xd
  as : asKey xd kvs = some k
theorem key_tup (I : Inv X pins σ H s) {x : V} {u : Value} {xd : D} {k : NestedKey} (d : Dp X.K H x xd) (r : RelV x u) (h : keyTop xd = some k) (t : isTup xd = true) : ∃ b, u = .ref b ∧ x = .ref b ∧ (nestedKind X.prog X.w).is s.heap k b := by
  obtain ⟨k1, k2, _⟩ := keyTop_of h
  have w := key_is I xd x u k d r k1
  cases xd with
  | tuple xs =>
    obtain ⟨b, vs, rfl, _, _⟩ := Dp_tup d
    have ek : u = .ref b := r
    subst ek
    exact ⟨b, rfl, rfl, w, k2⟩
  | _ => cases t
theorem isTup_cases (x : D) : isTup x = true ∨ isTup x = false := by cases isTup x <;> simp
variable {A : Around} {E : Value → Shared → Prop}
/-- x in d -/
theorem dd_in {Q : Value → Shared → Prop} {x y : V} {u : Value} {xd : D} {k : NestedKey} (hu : A.units + 9 < cLine) (I : Inv X pins σ H s) (g : DAt (X.kw la) H x y a es kvs xd k) (r : RelV x u) (h : ∀ s', Inv X pins σ H s' → Q (.bool (dget kvs k).isSome) s') : wpAny (model X.prog X.w) A (compareOp .In u (.ref a)) Q E s := by
  obtain ⟨hk, hc⟩ := asKey_of g.as
  have hd := (dic_at I g.at_).1
  rcases isTup_cases xd with t | t
  · obtain ⟨b, rfl, _, hb⟩ := key_tup I g.key r hk t
    have dd := dic_tup I g.at_ g.ents g.ok (fun p hp => by rw [hc p hp, t])
    refine wpAny_in_heap (knd := nestedKind X.prog X.w) (k := k) hu hb hd dd ?_
    rcases tabT_at (k := k) g.ents with ⟨h1, h2⟩ | ⟨yd, b', u', v', h1, h2, _, _⟩
    · rw [h2]
      rw [h1] at h
      exact h _ (I.tok _)
    · rw [h2]
      rw [h1] at h
      exact h _ (I.tok _)
  · have dd := dic_flat I g.at_ g.ents g.ok (fun p hp => by rw [hc p hp, t])
    refine wpAny_in_of (knd := flatKind X.prog X.w) (k := leafN k) (flat_is hk t g.key r) hd dd.mapOf ?_
    rcases tabF_at g.ents (fun p hp => by rw [hc p hp, t]) hk t with ⟨h1, h2⟩ | ⟨yd, u', v', h1, h2, _, _⟩
    · rw [h2]
      rw [h1] at h
      exact h _ (I.tok _)
    · rw [h2]
      rw [h1] at h
      exact h _ (I.tok _)
theorem dd_notIn {Q : Value → Shared → Prop} {x y : V} {u : Value} {xd : D} {k : NestedKey} (hu : A.units + 9 < cLine) (I : Inv X pins σ H s) (g : DAt (X.kw la) H x y a es kvs xd k) (r : RelV x u) (h : ∀ s', Inv X pins σ H s' → Q (.bool (!(dget kvs k).isSome)) s') : wpAny (model X.prog X.w) A (compareOp .NotIn u (.ref a)) Q E s := by
  obtain ⟨hk, hc⟩ := asKey_of g.as
  have hd := (dic_at I g.at_).1
  rcases isTup_cases xd with t | t
  · obtain ⟨b, rfl, _, hb⟩ := key_tup I g.key r hk t
    have dd := dic_tup I g.at_ g.ents g.ok (fun p hp => by rw [hc p hp, t])
    refine wpAny_notIn_heap (knd := nestedKind X.prog X.w) (k := k) hu hb hd dd ?_
    rcases tabT_at (k := k) g.ents with ⟨h1, h2⟩ | ⟨yd, b', u', v', h1, h2, _, _⟩
    · rw [h2]
      rw [h1] at h
      exact h _ (I.tok _)
    · rw [h2]
      rw [h1] at h
      exact h _ (I.tok _)
  · have dd := dic_flat I g.at_ g.ents g.ok (fun p hp => by rw [hc p hp, t])
    refine wpAny_notIn_of (knd := flatKind X.prog X.w) (k := leafN k) (flat_is hk t g.key r) hd dd.mapOf ?_
    rcases tabF_at g.ents (fun p hp => by rw [hc p hp, t]) hk t with ⟨h1, h2⟩ | ⟨yd, u', v', h1, h2, _, _⟩
    · rw [h2]
      rw [h1] at h
      exact h _ (I.tok _)
    · rw [h2]
      rw [h1] at h
      exact h _ (I.tok _)
/-- d[x], there -/
theorem dd_get {Q : Value → Shared → Prop} {x y : V} {u : Value} {xd yd : D} {k : NestedKey} (hu : A.units + 9 < cLine) (I : Inv X pins σ H s) (g : DAt (X.kw la) H x y a es kvs xd k) (r : RelV x u) (hy : dget kvs k = some yd) (h : ∀ v w' s', Inv X pins σ H s' → RelV v w' → Dp X.K H v yd → Q w' s') : wpAny (model X.prog X.w) A (getItem (.ref a) u) Q E s := by
  obtain ⟨hk, hc⟩ := asKey_of g.as
  rcases isTup_cases xd with t | t
  · obtain ⟨b, rfl, _, hb⟩ := key_tup I g.key r hk t
    have dd := dic_tup I g.at_ g.ents g.ok (fun p hp => by rw [hc p hp, t])
    rcases tabT_at (k := k) g.ents with ⟨h1, h2⟩ | ⟨yd', b', u', v', h1, h2, h3, h4⟩
    · rw [hy] at h1; cases h1
    · rw [hy] at h1
      cases h1
      exact wpAny_getItem_heap (knd := nestedKind X.prog X.w) (k := k) hu hb dd h2 (h v' u' _ (I.tok _) h3 h4)
  · have dd := dic_flat I g.at_ g.ents g.ok (fun p hp => by rw [hc p hp, t])
    rcases tabF_at g.ents (fun p hp => by rw [hc p hp, t]) hk t with ⟨h1, h2⟩ | ⟨yd', u', v', h1, h2, h3, h4⟩
    · rw [hy] at h1; cases h1
    · rw [hy] at h1
      cases h1
      exact wpAny_getItem_of (knd := flatKind X.prog X.w) (k := leafN k) (flat_is hk t g.key r) dd.mapOf h2 (h v' u' _ (I.tok _) h3 h4)
end

/-! ### what stands behind a store -/
section
variable {K : KW} {G : Hp}
def TabF (K : KW) (G : Hp) : List (Leaf × Value) → List (D × D) → Prop
  | [], [] => True
  | t :: ts, p :: ps => (∃ k v, keyTop p.1 = some k ∧ isTup p.1 = false ∧ t.1 = leafN k ∧ RelV v t.2 ∧ Dp K G v p.2) ∧ TabF K G ts ps
  | _, _ => False
def TabT (K : KW) (G : Hp) : List (NestedKey × Addr × Value) → List (D × D) → Prop
  | [], [] => True
  | t :: ts, p :: ps => (∃ v, keyTop p.1 = some t.1 ∧ Dp K G (.ref t.2.1) p.1 ∧ RelV v t.2.2 ∧ Dp K G v p.2) ∧ TabT K G ts ps
  | _, _ => False
theorem tabF_of : ∀ {es : List DictEntry} {ps : List (D × D)}, EntsR K G es ps → (∀ p ∈ ps, isTup p.1 = false) → TabF K G (tabF es ps) ps
  | [], [], _, _ => trivial
  | e :: es, p :: ps, ⟨⟨xv, yv, kk, h1, h2, h3, h4, h5, h6⟩, r⟩, fl => ⟨⟨kk, yv, h5, fl p List.mem_cons_self, by rw [keyN_of h5], h2, h4⟩, tabF_of r fun q hq => fl q (List.mem_cons_of_mem _ hq)⟩
  | [], _ :: _, r, _ => r.elim
  | _ :: _, [], r, _ => r.elim
theorem tabT_of : ∀ {es : List DictEntry} {ps : List (D × D)}, EntsR K G es ps → (∀ p ∈ ps, isTup p.1 = true) → TabT K G (tabT es ps) ps
  | [], [], _, _ => trivial
  | e :: es, p :: ps, ⟨⟨xv, yv, kk, h1, h2, h3, h4, h5, h6⟩, r⟩, tl => by
    refine ⟨⟨yv, by rw [keyN_of h5]; exact h5, ?_, h2, h4⟩, tabT_of r fun q hq => tl q (List.mem_cons_of_mem _ hq)⟩
    have tp := tl p List.mem_cons_self
    cases q : p.1 with
    | tuple xs =>
      rw [q] at h3
      obtain ⟨b, vs, rfl, _, _⟩ := Dp_tup h3
      have ek : e.key = .ref b := h1
      rw [ek]
      exact h3
    | _ => rw [q] at tp; cases tp
  | [], _ :: _, r, _ => r.elim
  | _ :: _, [], r, _ => r.elim
theorem TabF_any : ∀ {ts : List (Leaf × Value)} {ps : List (D × D)} {x : D} {k : NestedKey}, TabF K G ts ps → keyTop x = some k → isTup x = false → (ts.any fun kv => decide (kv.1 = leafN k)) = (dget ps k).isSome
  | [], [], _, _, _, _, _ => rfl
  | t :: ts, p :: ps, x, k, ⟨⟨kk, v, h1, h2, h3, h4, h5⟩, r⟩, hx, fx => by
    rw [List.any_cons]
    unfold dget
    rw [List.find?_cons]
    by_cases hk : kk = k
    · subst hk
      rw [decide_eq_true h1, h3, decide_eq_true rfl]
      rfl
    · have e1 : decide (keyTop p.1 = some k) = false := decide_eq_false fun z => by
        rw [h1] at z
        cases z
        exact hk rfl
      have e2 : decide (t.1 = leafN k) = false := decide_eq_false fun z => by
        rw [h3] at z
        exact hk (leaf_inj h1 h2 hx fx z)
      rw [e1, e2, Bool.false_or]
      exact TabF_any r hx fx
  | [], _ :: _, _, _, r, _, _ => r.elim
  | _ :: _, [], _, _, r, _, _ => r.elim
theorem TabF_map {x y : D} {k : NestedKey} {u : Value} {v : V} (hx : keyTop x = some k) (fx : isTup x = false) (ru : RelV v u) (dv : Dp K G v y) : ∀ {ts : List (Leaf × Value)} {ps : List (D × D)}, TabF K G ts ps →
    TabF K G (ts.map fun kv => if kv.1 = leafN k then (kv.1, u) else kv) (ps.map fun p => if keyTop p.1 = some k then (p.1, y) else p)
  | [], [], _ => trivial
  | t :: ts, p :: ps, ⟨⟨kk, v', h1, h2, h3, h4, h5⟩, r⟩ => by
    refine ⟨?_, TabF_map hx fx ru dv r⟩
    dsimp only
    by_cases hk : kk = k
    · subst hk
      rw [if_pos h3, if_pos h1]
      exact ⟨kk, v, h1, h2, h3, ru, dv⟩
    · have n1 : ¬ t.1 = leafN k := fun z => by
        rw [h3] at z
        exact hk (leaf_inj h1 h2 hx fx z)
      have n2 : ¬ keyTop p.1 = some k := fun z => by
        rw [h1] at z
        cases z
        exact hk rfl
      rw [if_neg n1, if_neg n2]
      exact ⟨kk, v', h1, h2, h3, h4, h5⟩
  | [], _ :: _, r => r.elim
  | _ :: _, [], r => r.elim
theorem TabF_snoc {t : Leaf × Value} {p : D × D} (z : ∃ k v, keyTop p.1 = some k ∧ isTup p.1 = false ∧ t.1 = leafN k ∧ RelV v t.2 ∧ Dp K G v p.2) : ∀ {ts : List (Leaf × Value)} {ps : List (D × D)}, TabF K G ts ps → TabF K G (ts ++ [t]) (ps ++ [p])
  | [], [], _ => ⟨z, trivial⟩
  | _ :: _, _ :: _, ⟨h, r⟩ => ⟨h, TabF_snoc z r⟩
  | [], _ :: _, r => r.elim
  | _ :: _, [], r => r.elim
theorem TabF_put {x y : D} {k : NestedKey} {u : Value} {v : V} {ts : List (Leaf × Value)} {ps : List (D × D)} (h : TabF K G ts ps) (hx : keyTop x = some k) (fx : isTup x = false) (ru : RelV v u) (dv : Dp K G v y) : TabF K G (stored ts (leafN k) u) (dput ps k x y) := by
  unfold stored dput
  rw [TabF_any h hx fx]
  split
  · exact TabF_map hx fx ru dv h
  · exact TabF_snoc ⟨k, v, hx, fx, rfl, ru, dv⟩ h
theorem TabF_ents {P : Program} {w : World} (hw : K.w = w) : ∀ {es : List DictEntry} {ts : List (Leaf × Value)} {ps : List (D × D)}, TabF K G ts ps → Pairs (flatKind P w) es ts → (∀ e ∈ es, ∃ k, (flatKind P w).is k e.key = true ∧ e.hash = (flatKind P w).hash k) → EntsR K G es ps
  | [], [], [], _, _, _ => trivial
  | e :: es, t :: ts, p :: ps, ⟨⟨kk, v, h1, h2, h3, h4, h5⟩, r⟩, hp, hk => by
    cases hp with
    | cons i1 i2 i3 =>
      refine ⟨?_, TabF_ents hw r i3 fun d hd => hk d (List.mem_cons_of_mem _ hd)⟩
      have i1 : flatIs t.1 e.key = true := i1
      rw [h3] at i1
      obtain ⟨xv, r1, r2⟩ := is_flat (K := K) (H := G) h1 h2 i1
      obtain ⟨k', j1, j2⟩ := hk e List.mem_cons_self
      have ek : k' = leafN kk := (flatKind P w).inj e.key k' (leafN kk) j1 i1
      subst ek
      refine ⟨xv, v, kk, r1, by rw [i2]; exact h4, r2, h5, h1, ?_⟩
      rw [j2]
      show (leafN kk).key.hash w = _
      rw [(flat_key h1 h2).1, hw]
  | [], _ :: _, _, _, hp, _ => by cases hp
  | _ :: _, [], _, _, hp, _ => by cases hp
  | _ :: _, _ :: _, [], r, _, _ => r.elim
  | [], [], _ :: _, r, _, _ => r.elim
theorem TabT_at : ∀ {ts : List (NestedKey × Addr × Value)} {ps : List (D × D)} {k : NestedKey}, TabT K G ts ps → (atKey ts k).isSome = (dget ps k).isSome
  | [], [], _, _ => rfl
  | t :: ts, p :: ps, k, ⟨⟨v, h1, h2, h3, h4⟩, r⟩ => by
    unfold atKey dget
    rw [List.find?_cons, List.find?_cons]
    by_cases hk : t.1 = k
    · rw [decide_eq_true hk]
      rw [hk] at h1
      rw [decide_eq_true h1]
      rfl
    · rw [decide_eq_false hk]
      have e1 : decide (keyTop p.1 = some k) = false := decide_eq_false fun z => by
        rw [h1] at z
        cases z
        exact hk rfl
      rw [e1]
      exact TabT_at r
  | [], _ :: _, _, r => r.elim
  | _ :: _, [], _, r => r.elim
theorem TabT_map {y : D} {k : NestedKey} {u : Value} {v : V} (ru : RelV v u) (dv : Dp K G v y) : ∀ {ts : List (NestedKey × Addr × Value)} {ps : List (D × D)}, TabT K G ts ps →
    TabT K G (ts.map (putAt k u)) (ps.map fun p => if keyTop p.1 = some k then (p.1, y) else p)
  | [], [], _ => trivial
  | t :: ts, p :: ps, ⟨⟨v', h1, h2, h3, h4⟩, r⟩ => by
    refine ⟨?_, TabT_map ru dv r⟩
    unfold putAt
    dsimp only
    by_cases hk : t.1 = k
    · rw [if_pos hk, if_pos (by rw [h1, hk])]
      exact ⟨v, h1, h2, ru, dv⟩
    · have n2 : ¬ keyTop p.1 = some k := fun z => by
        rw [h1] at z
        cases z
        exact hk rfl
      rw [if_neg hk, if_neg n2]
      exact ⟨v', h1, h2, h3, h4⟩
  | [], _ :: _, r => r.elim
  | _ :: _, [], r => r.elim
theorem TabT_snoc {t : NestedKey × Addr × Value} {p : D × D} (z : ∃ v, keyTop p.1 = some t.1 ∧ Dp K G (.ref t.2.1) p.1 ∧ RelV v t.2.2 ∧ Dp K G v p.2) : ∀ {ts : List (NestedKey × Addr × Value)} {ps : List (D × D)}, TabT K G ts ps → TabT K G (ts ++ [t]) (ps ++ [p])
  | [], [], _ => ⟨z, trivial⟩
  | _ :: _, _ :: _, ⟨h, r⟩ => ⟨h, TabT_snoc z r⟩
  | [], _ :: _, r => r.elim
  | _ :: _, [], r => r.elim
theorem TabT_put {x y : D} {k : NestedKey} {b : Addr} {u : Value} {v : V} {ts : List (NestedKey × Addr × Value)} {ps : List (D × D)} (h : TabT K G ts ps) (hx : keyTop x = some k) (db : Dp K G (.ref b) x) (ru : RelV v u) (dv : Dp K G v y) : TabT K G (storedH ts k b u) (dput ps k x y) := by
  unfold storedH dput
  rw [TabT_at h]
  split
  · exact TabT_map ru dv h
  · exact TabT_snoc ⟨v, hx, db, ru, dv⟩ h
theorem TabT_ents {P : Program} {w : World} (hw : K.w = w) : ∀ {ts : List (NestedKey × Addr × Value)} {ps : List (D × D)}, TabT K G ts ps → EntsR K G (ts.map (entryOfKey (nestedKind P w))) ps
  | [], [], _ => trivial
  | t :: ts, p :: ps, ⟨⟨v, h1, h2, h3, h4⟩, r⟩ => ⟨⟨.ref t.2.1, v, t.1, rfl, h3, h2, h4, h1, by rw [hw]; rfl⟩, TabT_ents hw r⟩
  | [], _ :: _, r => r.elim
  | _ :: _, [], r => r.elim
theorem dget_none : ∀ {ps : List (D × D)} {k : NestedKey}, dget ps k = none → ∀ p ∈ ps, keyTop p.1 ≠ some k
  | [], _, _, p, hp => by cases hp
  | q :: ps, k, h, p, hp => by
    unfold dget at h
    rw [List.find?_cons] at h
    by_cases hk : keyTop q.1 = some k
    · rw [decide_eq_true hk] at h
      cases h
    · rw [decide_eq_false hk] at h
      cases hp with
      | head => exact hk
      | tail _ hp => exact dget_none h p hp
theorem dput_keys {ps : List (D × D)} {k : NestedKey} {x y : D} : (dput ps k x y).map (·.1) = if (dget ps k).isSome = true then ps.map (·.1) else ps.map (·.1) ++ [x] := by
  unfold dput
  split
  · rw [List.map_map]
    congr 1
    funext p
    show (if keyTop p.1 = some k then (p.1, y) else p).1 = p.1
    split <;> rfl
  · rw [List.map_append]; rfl
theorem dput_ok {ps : List (D × D)} {k : NestedKey} {x y : D} (h : KeysOk ps) (hx : asKey x ps = some k) : KeysOk (dput ps k x y) := by
  obtain ⟨hk, hc⟩ := asKey_of hx
  have ek : (dput ps k x y).map (fun p => keyTop p.1) = ((dput ps k x y).map (·.1)).map keyTop := by rw [List.map_map]; rfl
  have mem : ∀ p ∈ dput ps k x y, p.1 = x ∨ ∃ q ∈ ps, q.1 = p.1 := fun p hp => by
    have : p.1 ∈ (dput ps k x y).map (·.1) := List.mem_map_of_mem hp
    rw [dput_keys] at this
    split at this
    · obtain ⟨q, hq, e⟩ := List.mem_map.mp this
      exact .inr ⟨q, hq, e⟩
    · rcases List.mem_append.mp this with h | h
      · obtain ⟨q, hq, e⟩ := List.mem_map.mp h
        exact .inr ⟨q, hq, e⟩
      · exact .inl (List.mem_singleton.mp h)
  refine ⟨fun p hp => ?_, ?_, ?_⟩
  · rcases mem p hp with e | ⟨q, hq, e⟩
    · exact ⟨k, by rw [e]; exact hk⟩
    · obtain ⟨kk, h1⟩ := h.1 q hq
      exact ⟨kk, by rw [← e]; exact h1⟩
  · rw [ek, dput_keys]
    have h2 : ((ps.map (·.1)).map keyTop).Nodup := by
      have := h.2.1
      rw [show (ps.map fun p => keyTop p.1) = (ps.map (·.1)).map keyTop by rw [List.map_map]; rfl] at this
      exact this
    cases q : dget ps k with
    | some _ => exact h2
    | none =>
      rw [if_neg (by simp), List.map_append, List.nodup_append]
      refine ⟨h2, by simp, fun a ha b hb e => ?_⟩
      subst e
      rw [List.map_map] at ha
      obtain ⟨p, hp, e⟩ := List.mem_map.mp ha
      have hb : a = keyTop x := by simpa using hb
      refine dget_none q p hp ?_
      have e : keyTop p.1 = a := e
      rw [e, hb, hk]
  · rcases isTup_cases x with t | t
    · refine .inl fun p hp => ?_
      rcases mem p hp with e | ⟨q, hq, e⟩
      · rw [e, t]
      · rw [← e, hc q hq, t]
    · refine .inr fun p hp => ?_
      rcases mem p hp with e | ⟨q, hq, e⟩
      · rw [e, t]
      · rw [← e, hc q hq, t]
theorem dput_len {ps : List (D × D)} {k : NestedKey} {x y : D} : (dput ps k x y).length ≤ ps.length + 1 := by
  unfold dput
  split
  · rw [List.length_map]; omega
  · rw [List.length_append]; exact Nat.le_refl _
end
section
variable {X : Cx} {la : Nat → Addr} {pins : List (Addr × Obj)} {σ : L2.St} {H : Hp} {s : Shared} {a : Addr} {es : List DictEntry} {kvs : List (D × D)} {A : Around} {E : Value → Shared → Prop}
theorem dic_new {h' : Heap} {es' : List DictEntry} (hd : (a == sysModules) = false) {o : Obj} {ep : Nat} (h1 : h'.get? a = some o) (h2 : o.ExactDict) (h3 : o.data = .dict es'.toArray ep) {H' : Hp} : ObjOk X.prog X.w H' h' a (.ext (dicH a es')) :=
  ⟨⟨hd, o, ep, h1, h2, h3⟩, ⟨o, h1⟩, fun h1 h2 ⟨q1, o, ep, q2, q3, q4⟩ k => ⟨q1, o, ep, k o q2, q3, q4⟩⟩
/-- d[x] = v -/
theorem dd_set {Q : Unit → Shared → Prop} {x y v : V} {u r : Value} {xd yd : D} {k : NestedKey} (hu : A.units + 9 < cLine) (I : Inv X pins σ H s) (g : DAt (X.kw la) H x y a es kvs xd k) (rx : RelV x u) (rv : RelV v r) (dv : Dp X.K H v yd) (hl : kvs.length ≤ sizeLine)
    (h : ∀ es' s', Inv X pins σ (L2.upd H a (.ext (dicH a es'))) s' → (∀ G, EntsR (X.kw la) G es kvs → Dp X.K G x xd → Dp X.K G v yd → EntsR (X.kw la) G es' (dput kvs k xd yd)) → Q () s') :
    wpAny (model X.prog X.w) A (setItem (.ref a) u r) Q E s := by
  obtain ⟨hk, hc⟩ := asKey_of g.as
  have hd := (dic_at I g.at_).1
  have mu : Mut (H a) := by rw [g.at_]; exact True.intro
  rcases isTup_cases xd with t | t
  · obtain ⟨b, rfl, rfl, hb⟩ := key_tup I g.key rx hk t
    have tl : ∀ p ∈ kvs, isTup p.1 = true := fun p hp => by rw [hc p hp, t]
    have dd := dic_tup I g.at_ g.ents g.ok tl
    refine wpAny_setItem_heap (knd := nestedKind X.prog X.w) (k := k) (hsz := by rw [tabT_len g.ents]; exact hl) hu hb dd fun h' dd' hs => ?_
    obtain ⟨o, es', ep, q1, q2, q3, q4, _, _⟩ := dd'
    refine h es'.toList _ (d_write I mu hs ⟨o, q1⟩ (dic_new hd q1 q2 (by rw [q3]))) fun G e1 e2 e3 => ?_
    rw [q4]
    exact TabT_ents rfl (TabT_put (tabT_of e1 tl) hk e2 rv e3)
  · have fl : ∀ p ∈ kvs, isTup p.1 = false := fun p hp => by rw [hc p hp, t]
    have dd := dic_flat I g.at_ g.ents g.ok fl
    refine wpAny_setItem_pairs (knd := flatKind X.prog X.w) (k := leafN k) (hsz := by rw [tabF_len g.ents]; exact hl) (flat_is hk t g.key rx) dd fun h' dd' hs => ?_
    obtain ⟨o, es', ep, q1, q2, q3, q4, q5, _⟩ := dd'
    refine h es'.toList _ (d_write I mu hs ⟨o, q1⟩ (dic_new hd q1 q2 (by rw [q3]))) fun G e1 e2 e3 => ?_
    exact TabF_ents (P := X.prog) (w := X.w) rfl (TabF_put (tabF_of e1 fl) hk t rv e3) q5 (fun e he => q4 e (by simpa using he))
end

section
variable {X : Cx} {la : Nat → Addr} {pins : List (Addr × Obj)} {σ : L2.St} {H G : Hp} {s : Shared} {a : Addr} {es : List DictEntry} {kvs : List (D × D)} {A : Around} {E : Value → Shared → Prop}
/-- d[x], there; the value is data of the part G of the heap -/
theorem dd_getH {Q : Value → Shared → Prop} {x y : V} {u : Value} {xd yd : D} {k : NestedKey} (hu : A.units + 9 < cLine) (I : Inv X pins σ H s) (g : DAt (X.kw la) H x y a es kvs xd k) (ge : EntsR (X.kw la) G es kvs) (r : RelV x u) (hy : dget kvs k = some yd) (h : ∀ v w' s', Inv X pins σ H s' → RelV v w' → Dp X.K G v yd → Q w' s') : wpAny (model X.prog X.w) A (getItem (.ref a) u) Q E s := by
  obtain ⟨hk, hc⟩ := asKey_of g.as
  rcases isTup_cases xd with t | t
  · obtain ⟨b, rfl, _, hb⟩ := key_tup I g.key r hk t
    have dd := dic_tup I g.at_ g.ents g.ok (fun p hp => by rw [hc p hp, t])
    rcases tabT_at (k := k) ge with ⟨h1, h2⟩ | ⟨yd', b', u', v', h1, h2, h3, h4⟩
    · rw [hy] at h1; cases h1
    · rw [hy] at h1
      cases h1
      exact wpAny_getItem_heap (knd := nestedKind X.prog X.w) (k := k) hu hb dd h2 (h v' u' _ (I.tok _) h3 h4)
  · have dd := dic_flat I g.at_ g.ents g.ok (fun p hp => by rw [hc p hp, t])
    rcases tabF_at ge (fun p hp => by rw [hc p hp, t]) hk t with ⟨h1, h2⟩ | ⟨yd', u', v', h1, h2, h3, h4⟩
    · rw [hy] at h1; cases h1
    · rw [hy] at h1
      cases h1
      exact wpAny_getItem_of (knd := flatKind X.prog X.w) (k := leafN k) (flat_is hk t g.key r) dd.mapOf h2 (h v' u' _ (I.tok _) h3 h4)
end
end DL
/-! ## DL, part 14: texts -/
namespace DL
open PySem PySem.Spec PyProof.Rows L2
/-! ### what they answer -/
def strC (c : Cell) : R Cell := match c with
  | .d (.str s) => .ok (.d (.str s))
  | _ => .no
def strsD : List D → Option (List Str)
  | [] => some []
  | .str s :: r => (strsD r).map (s :: ·)
  | _ :: _ => none
def splitD (x y : Cell) : R Cell := match x, y with
  | .d (.str a), .d (.str b) => if (b.length == 0) = false ∧ a.length + 2 ≤ 16777216 then .ok (.own ((Txt.split a b).map .str)) else .no
  | _, _ => .no
def joinD (x y : Cell) : R Cell := match x with
  | .d (.str a) => match y.items with
    | some xs => match strsD xs with
      | some ys => if (ys.map (·.length)).sum + ys.length * a.length ≤ 16777216 then .ok (.d (.str (Txt.join a ys))) else .no
      | none => .no
    | none => .no
  | _ => .no
def stripD (x : Cell) : R Cell := match x with
  | .d (.str a) => if a.length ≤ 16777216 then .ok (.d (.str (Txt.strip a))) else .no
  | _ => .no
def findD (x y : Cell) : R Cell := match x, y with
  | .d (.str a), .d (.str b) => .ok (.d (.int (Txt.find a b)))
  | _, _ => .no
def strD (x : Cell) : R Cell := match x with
  | .d (.int i) => if i.natAbs.log2 < 1920 then .ok (.d (.str (toString i))) else .no
  | .d (.str a) => .ok (.d (.str a))
  | _ => .no
def intD (x : Cell) : R Cell := match x with
  | .d (.int i) => .ok (.d (.int i))
  | .d (.bool b) => .ok (.d (.int (if b then 1 else 0)))
  | .d (.str a) => match PySem.intText? a with
    | some n => if a.length ≤ 640 then .ok (.d (.int n)) else .no
    | none => .no
  | _ => .no
def inB (x y : Cell) : R Bool := match y.view with
  | some (.str j) => match x.view with
    | some (.str i) => .ok (!(Builtin.Str.occurrences j i 0 j.length 1).isEmpty)
    | _ => .no
  | some (.list ds) => match x.view with
    | some d => if SeqAt.shaped d = true ∧ SeqAt.shaped (.list ds) = true then .ok (ds.any fun z => PyData.eqv z d) else .no
    | none => .no
  | _ => .no
def inD (x y : Cell) : R Cell := (inB x y).bind fun b => .ok (.d (.bool b))
def notInD (x y : Cell) : R Cell := (inB x y).bind fun b => .ok (.d (.bool (!b)))
/-- text[lo:hi] -/
def cutT (x : Cell) (lo hi : Option Int) : R Cell := match x with
  | .d (.str s) => if s.length ≤ 16777216 then .ok (.d (.str (cutS s lo hi))) else .no
  | _ => .no
/-- its signs -/
def signsD (c : Cell) : R (List D) := match c with
  | .d (.str s) => .ok (s.cps.toList.map fun c => .str ⟨#[c]⟩)
  | _ => .no
section
variable {K : KW}
theorem strsD_rel {H : Hp} : ∀ {xs : List D} {vs : List V} {ys : List Str}, DpAll K H vs xs → strsD xs = some ys → vs = ys.map V.str
  | [], _, _, .nil, e => by cases e; rfl
  | x :: xs, _, ys, .cons h1 h2, e => by
    cases x with
    | str s =>
      unfold strsD at e
      cases q : strsD xs with
      | none => rw [q] at e; cases e
      | some zs =>
        rw [q] at e
        cases e
        rw [strsD_rel h2 q, Dp_str h1]
        rfl
    | _ => cases e
theorem strs_dp {H : Hp} : ∀ ys : List Str, DpAll K H (ys.map V.str) (ys.map PyData.str)
  | [] => .nil
  | y :: ys => .cons (.str y) (strs_dp ys)
theorem op1_strip : Op1 K (fun x H Q => ∃ a, x = .str a ∧ ([] : List V) = [] ∧ a.length ≤ sizeLine ∧ Q (.str (Txt.strip a)) H) stripD := fun mg W O H σ c v Q hO h1 h => by
  unfold stripD at h
  split at h
  · have e := Dp_str (Peek_d h1)
    subst e
    split at h
    · rename_i hl
      exact ⟨_, rfl, rfl, by rw [sizeLine_eq]; exact hl, h.dat (.str _)⟩
    · exact h.elim
  · exact h.elim
theorem op2_split : Op2 K (fun x u H Q => ∃ a b, x = .str a ∧ [u] = [V.str b] ∧ (b.length == 0) = false ∧ a.length + 2 ≤ sizeLine ∧ rNewStrs (Txt.split a b) H Q) splitD := fun mg W O H σ c d v u Q hO h1 h2 h => by
  unfold splitD at h
  split at h
  · have e1 := Dp_str (Peek_d h1)
    have e2 := Dp_str (Peek_d h2)
    subst e1 e2
    split at h
    · rename_i hl
      exact ⟨_, _, rfl, rfl, hl.1, by rw [sizeLine_eq]; exact hl.2, h.newL (strs_dp _)⟩
    · exact h.elim
  · exact h.elim
theorem op2_join : Op2 K (fun x u H Q => ∃ a p, ∃ ys : List Str, x = .str a ∧ [u] = [V.ref p] ∧ (SqL K H p (ys.map V.str) ∨ SqT K H p (ys.map V.str)) ∧ (ys.map (·.length)).sum + ys.length * a.length ≤ 16777216 ∧ Q (.str (Txt.join a ys)) H) joinD := fun mg W O H σ c d v u Q hO h1 h2 h => by
  unfold joinD at h
  split at h
  · have e1 := Dp_str (Peek_d h1)
    subst e1
    split at h
    · rename_i xs ex
      split at h
      · rename_i ys ey
        split at h
        · rename_i hl
          obtain ⟨a, vs, rfl, s, q⟩ := Peek_items h2 ex
          have ev := strsD_rel q ey
          subst ev
          exact ⟨_, a, ys, rfl, rfl, s, hl, h.dat (.str _)⟩
        · exact h.elim
      · exact h.elim
    · exact h.elim
  · exact h.elim
theorem op2_find : Op2 K (fun x u H Q => ∃ a b, x = .str a ∧ [u] = [V.str b] ∧ Q (.int (Txt.find a b)) H) findD := fun mg W O H σ c d v u Q hO h1 h2 h => by
  unfold findD at h
  split at h
  · have e1 := Dp_str (Peek_d h1)
    have e2 := Dp_str (Peek_d h2)
    subst e1 e2
    exact ⟨_, _, rfl, rfl, h.dat (.int _)⟩
  · exact h.elim
theorem op1_str : Op1 K (fun x H Q => (∃ i, [x] = [V.int i] ∧ i.natAbs.log2 < 1920 ∧ Q (.str (toString i)) H) ∨ ∃ a, [x] = [V.str a] ∧ Q (.str a) H) strD := fun mg W O H σ c v Q hO h1 h => by
  unfold strD at h
  split at h
  · have e := Dp_int (Peek_d h1)
    subst e
    split at h
    · rename_i hl
      exact .inl ⟨_, rfl, hl, h.dat (.str _)⟩
    · exact h.elim
  · have e := Dp_str (Peek_d h1)
    subst e
    exact .inr ⟨_, rfl, h.dat (.str _)⟩
  · exact h.elim
theorem op1_int : Op1 K (fun x H Q => ((∃ i, [x] = [V.int i] ∧ Q (.int i) H) ∨ ∃ k, [x] = [V.bl k] ∧ Q (.int (if k then 1 else 0)) H) ∨ ∃ a n, [x] = [V.str a] ∧ PySem.intText? a = some n ∧ a.length ≤ 640 ∧ Q (.int n) H) intD := fun mg W O H σ c v Q hO h1 h => by
  unfold intD at h
  split at h
  · have e := Dp_int (Peek_d h1)
    subst e
    exact .inl (.inl ⟨_, rfl, h.dat (.int _)⟩)
  · have e := Dp_bool (Peek_d h1)
    subst e
    exact .inl (.inr ⟨_, rfl, h.dat (.int _)⟩)
  · have e := Dp_str (Peek_d h1)
    subst e
    split at h
    · rename_i n hn
      split at h
      · rename_i hl
        exact .inr ⟨_, n, rfl, hn, hl, h.dat (.int _)⟩
      · exact h.elim
    · exact h.elim
  · exact h.elim
theorem inB_ok {H : Hp} {O : Addr → Prop} {c d : Cell} {v u : V} {b : Bool} (h1 : PeekR K H O c v) (h2 : PeekR K H O d u) (h : inB c d = .ok b) :
    (∃ i j, v = .str i ∧ u = .str j ∧ b = !(Builtin.Str.occurrences j i 0 j.length 1).isEmpty) ∨ ∃ x ds, Dp K H v x ∧ Dp K H u (.list ds) ∧ SeqAt.shaped x = true ∧ SeqAt.shaped (.list ds) = true ∧ b = ds.any fun z => PyData.eqv z x := by
  unfold inB at h
  split at h
  · rename_i j ej
    split at h
    · rename_i i ei
      cases h
      exact .inl ⟨i, j, Dp_str (Peek_view h1 ei), Dp_str (Peek_view h2 ej), rfl⟩
    · cases h
  · rename_i ds ed
    split at h
    · rename_i x ex
      split at h
      · rename_i hs
        cases h
        exact .inr ⟨x, ds, Peek_view h1 ex, Peek_view h2 ed, hs.1, hs.2, rfl⟩
      · cases h
    · cases h
  · cases h
theorem inB_ex {c d : Cell} {k : Str} {fs : List (Str × D)} (h : inB c d = .ex k fs) : False := by
  unfold inB at h
  split at h
  · split at h <;> cases h
  · split at h
    · split at h <;> cases h
    · cases h
  · cases h
theorem op2_in : Op2 K (fun x y H Q => (∃ i j, x = .str i ∧ y = .str j ∧ Q (.bl (!(Builtin.Str.occurrences j i 0 j.length 1).isEmpty)) H) ∨ rInD K x y H Q) inD := fun mg W O H σ c d v u Q hO h1 h2 h => by
  unfold inD at h
  cases q : inB c d with
  | no => rw [q] at h; exact h.elim
  | ex k fs => exact (inB_ex q).elim
  | ok b =>
    rw [q] at h
    rcases inB_ok h1 h2 q with ⟨i, j, rfl, rfl, rfl⟩ | ⟨x, ds, hx, hd, sx, sd, rfl⟩
    · exact .inl ⟨i, j, rfl, rfl, h.dat (.bl _)⟩
    · exact .inr ⟨x, ds, hx, hd, sx, sd, h.dat (.bl _)⟩
theorem op2_notIn : Op2 K (fun x y H Q => (∃ i j, x = .str i ∧ y = .str j ∧ Q (.bl (!(!(Builtin.Str.occurrences j i 0 j.length 1).isEmpty))) H) ∨ rNotInD K x y H Q) notInD := fun mg W O H σ c d v u Q hO h1 h2 h => by
  unfold notInD at h
  cases q : inB c d with
  | no => rw [q] at h; exact h.elim
  | ex k fs => exact (inB_ex q).elim
  | ok b =>
    rw [q] at h
    rcases inB_ok h1 h2 q with ⟨i, j, rfl, rfl, rfl⟩ | ⟨x, ds, hx, hd, sx, sd, rfl⟩
    · exact .inl ⟨i, j, rfl, rfl, h.dat (.bl _)⟩
    · exact .inr ⟨x, ds, hx, hd, sx, sd, h.dat (.bl _)⟩
end
/-! ### the rules -/
section
variable {X : Cx} {la : Nat → Addr} {W : WX} {tg e l a b c o : Expr} {fa fb fc : Env → R Cell} {pos p p2 : Pos} {lo hi : Option Expr} {fl fh : Env → R (Option Int)}
theorem opr_in (hu : X.A.units + 65 < cLine) : OpR X (compareOp .In) (fun x y H Q => (∃ i j, x = .str i ∧ y = .str j ∧ Q (.bl (!(Builtin.Str.occurrences j i 0 j.length 1).isEmpty)) H) ∨ rInD X.K x y H Q) := OpR.or2 op_in_str (op_inD hu)
theorem opr_notIn (hu : X.A.units + 65 < cLine) : OpR X (compareOp .NotIn) (fun x y H Q => (∃ i j, x = .str i ∧ y = .str j ∧ Q (.bl (!(!(Builtin.Str.occurrences j i 0 j.length 1).isEmpty))) H) ∨ rNotInD X.K x y H Q) := OpR.or2 op_notIn_str (op_notInD hu)
/-- a method of a text, no argument -/
theorem de_sm0 {r : V → List V → Hp → VK → Prop} {g : Cell → R Cell} (h : PE X e (tBM0 X.K "str" r (tpD (X.kw la) X.mg W fa))) (ho : Op1 (X.kw la) (fun v H Q => r v [] H Q) g) : PE X e (teD (X.kw la) X.mg W fun en => ((fa en).bind strC).bind g) := PE.imp h fun σ H Q ⟨H0, O0, own, env, E, h⟩ => by
  refine ⟨H0, O0, own, env, E, ?_⟩
  cases q : fa env with
  | no => simp only [q, R.bind_no] at h; exact h
  | ex k fs => simp only [q, R.bind_ex] at h; exact h
  | ok c =>
    simp only [q, R.bind_ok] at h
    intro v H1 s1 r1
    cases q2 : strC c with
    | no => simp only [q2, R.bind_no] at h; exact h.elim
    | ex k fs => exact absurd q2 (by unfold strC; split <;> (intro z; cases z))
    | ok c' =>
      simp only [q2, R.bind_ok] at h
      unfold strC at q2
      split at q2
      · rename_i z
        cases q2
        have ev := Dp_str (Peek_d r1)
        subst ev
        exact ⟨rfl, ho X.mg W _ H1 σ _ _ Q (E.mono s1).thereO r1 (Hand.mono s1 h)⟩
      · cases q2
/-- .., one argument -/
theorem de_sm1 {r : V → List V → Hp → VK → Prop} {g : Cell → Cell → R Cell} (h : PE X e (tBM X.K "str" r (tpD (X.kw la) X.mg W fa) (tCons (tpD (X.kw la) X.mg W fb) tNil))) (ho : Op2 (X.kw la) (fun v u H Q => r v [u] H Q) g) : PE X e (teD (X.kw la) X.mg W fun en => ((fa en).bind strC).bind fun x => (fb en).bind fun y => g x y) := PE.imp h fun σ H Q ⟨H0, O0, own, env, E, h⟩ => by
  refine ⟨H0, O0, own, env, E, ?_⟩
  cases q : fa env with
  | no => simp only [q, R.bind_no] at h; exact h
  | ex k fs => simp only [q, R.bind_ex] at h; exact h
  | ok c =>
    simp only [q, R.bind_ok] at h
    intro v H1 s1 r1
    cases q2 : strC c with
    | no => simp only [q2, R.bind_no] at h; exact h.elim
    | ex k fs => exact absurd q2 (by unfold strC; split <;> (intro z; cases z))
    | ok c' =>
      simp only [q2, R.bind_ok] at h
      unfold strC at q2
      split at q2
      · rename_i z
        cases q2
        have ev := Dp_str (Peek_d r1)
        subst ev
        refine ⟨rfl, H0, O0, own, env, E.mono s1, ?_⟩
        cases q3 : fb env with
        | no => simp only [q3, R.bind_no] at h; exact h
        | ex k fs => simp only [q3, R.bind_ex] at h; exact fun H' cls d s' w => h H' cls d (s1.trans s') w
        | ok d =>
          simp only [q3, R.bind_ok] at h
          intro u H2 s2 r2
          exact ho X.mg W _ H2 σ _ _ _ _ Q (E.mono (s1.trans s2)).thereO (PeekR_mono s2 (fun _ _ _ z => z) r1) r2 (Hand.mono (s1.trans s2) h)
      · cases q2
theorem de_strT (hm : X.mg "str" = none) (ha : PE X a (tpD (X.kw la) X.mg W fa)) (hg : Gl X "str" := by rfl)
    (he : starEach (a :: []) X.env = (false, eval a X.env) :: starEach [] X.env := by rfl) (hpl : (backTo pos (starEach [] X.env)).any (·.1) = false := by rfl) :
    PE X (.Call (.Name "str" p) [a] [] pos) (teD (X.kw la) X.mg W fun en => (fa en).bind strD) := de_t1 (CallR.or call_str_int SkE.call_str_str) hm (by decide +kernel) op1_str ha hg (by decide) (by decide) he hpl
theorem de_intT (hm : X.mg "int" = none) (ha : PE X a (tpD (X.kw la) X.mg W fa)) (hg : Gl X "int" := by rfl)
    (he : starEach (a :: []) X.env = (false, eval a X.env) :: starEach [] X.env := by rfl) (hpl : (backTo pos (starEach [] X.env)).any (·.1) = false := by rfl) :
    PE X (.Call (.Name "int" p) [a] [] pos) (teD (X.kw la) X.mg W fun en => (fa en).bind intD) := de_t1 (CallR.or call_int1 call_int_str) hm (by decide +kernel) op1_int ha hg (by decide) (by decide) he hpl
theorem de_cutT (ha : PE X a (tpD (X.kw la) X.mg W fa)) (hl : PO X lo (toD (X.kw la) X.mg W fl)) (hh : PO X hi (toD (X.kw la) X.mg W fh)) :
    PE X (.Subscript a (.Slice lo hi none p2) pos) (teD (X.kw la) X.mg W fun en => (fa en).bind fun x => (fl en).bind fun l => (fh en).bind fun u => cutT x l u) :=
  PE.imp (pe_slice sl_str ha hl hh) fun σ H Q ⟨H0, O0, own, env, E, h⟩ => by
  refine ⟨H0, O0, own, env, E, ?_⟩
  cases q : fa env with
  | no => simp only [q, R.bind_no] at h; exact h
  | ex k fs => simp only [q, R.bind_ex] at h; exact h
  | ok c =>
    simp only [q, R.bind_ok] at h
    intro v H1 s1 r1
    refine ⟨H0, O0, own, env, E.mono s1, ?_⟩
    cases q2 : fl env with
    | no => simp only [q2, R.bind_no] at h; exact h
    | ex k fs => simp only [q2, R.bind_ex] at h; exact fun H' cls d s' w => h H' cls d (s1.trans s') w
    | ok l =>
      simp only [q2, R.bind_ok] at h
      intro H2 s2
      refine ⟨H0, O0, own, env, E.mono (s1.trans s2), ?_⟩
      cases q3 : fh env with
      | no => simp only [q3, R.bind_no] at h; exact h
      | ex k fs => simp only [q3, R.bind_ex] at h; exact fun H' cls d s' w => h H' cls d ((s1.trans s2).trans s') w
      | ok u =>
        simp only [q3, R.bind_ok] at h
        intro H3 s3
        have s := (s1.trans s2).trans s3
        have h' := Hand.mono s h
        have r3 := PeekR_mono (s2.trans s3) (fun _ _ _ z => z) r1
        unfold cutT at h'
        split at h'
        · have ev := Dp_str (Peek_d r3)
          subst ev
          split at h'
          · rename_i hl
            exact ⟨_, rfl, by rw [sizeLine_eq]; exact hl, h'.dat (.str _)⟩
          · exact h'.elim
        · exact h'.elim
theorem itF_s {K : KW} {H1 : Hp} {O : Addr → Prop} {x : Str} : ItF K H1 O (Its x) (x.cps.toList.map fun c => PyData.str ⟨#[c]⟩) := fun i H2 O2 k => by
  refine ⟨fun y e => ?_, fun e => ?_⟩
  · rw [List.getElem?_map, Option.map_eq_some_iff] at e
    obtain ⟨c, e1, rfl⟩ := e
    have hi : i < x.cps.size := by
      have := (List.getElem?_eq_some_iff.mp e1).1
      simpa using this
    refine ⟨hi, fun v H' y => ⟨y.1, ?_⟩⟩
    obtain ⟨_, c', e2, rfl⟩ := y
    have : x.cps[i]? = some c := by
      rw [← Array.getElem?_toList]
      exact e1
    rw [this] at e2
    cases e2
    exact .str _
  · show x.cps.size ≤ i
    simpa using e
/-- for c in a text -/
theorem df_str (ha : PE X l (teD (X.kw la) X.mg W fa)) : PI X tg l (wfD (X.kw la) X.mg W fun en => (fa en).bind signsD) := PI.imp (pi_str ha) fun σ H P ⟨H0, O0, own, env, E, h⟩ => by
  refine ⟨H0, O0, own, env, E, ?_⟩
  cases q : fa env with
  | no => simp only [q, R.bind_no] at h; exact h
  | ex k fs => simp only [q, R.bind_ex] at h; exact h
  | ok c =>
    simp only [q, R.bind_ok] at h
    intro v H1 os s1 fr nd r
    unfold signsD at h
    split at h
    · rename_i z
      have ev := Dp_str r.2
      subst ev
      exact ⟨z, rfl, h _ H1 s1 itF_s⟩
    · exact h.elim
def sliceA (x : Cell) (l u : Option Int) : R Cell := match x with
  | .d (.str s) => cutT (.d (.str s)) l u
  | c => sliceD c l u
def itemsA (x : Cell) : R (List D) := match x with
  | .d (.str s) => signsD (.d (.str s))
  | c => itemsR c
def isStr : Cell → Bool
  | .d (.str _) => true
  | _ => false
theorem sliceA_str {c : Cell} (h : isStr c = true) : sliceA c = cutT c := by
  unfold isStr at h
  split at h
  · rfl
  · cases h
theorem sliceA_not {c : Cell} (h : isStr c = false) : sliceA c = sliceD c := by
  cases c with
  | d x => cases x <;> first | rfl | cases h
  | _ => rfl
theorem itemsA_str {c : Cell} (h : isStr c = true) : itemsA c = signsD c := by
  unfold isStr at h
  split at h
  · rfl
  · cases h
theorem itemsA_not {c : Cell} (h : isStr c = false) : itemsA c = itemsR c := by
  cases c with
  | d x => cases x <;> first | rfl | cases h
  | _ => rfl
theorem de_sliceA (ha : PE X a (tpD (X.kw la) X.mg W fa)) (hl : PO X lo (toD (X.kw la) X.mg W fl)) (hh : PO X hi (toD (X.kw la) X.mg W fh)) :
    PE X (.Subscript a (.Slice lo hi none p2) pos) (teD (X.kw la) X.mg W fun en => (fa en).bind fun x => (fl en).bind fun l => (fh en).bind fun u => sliceA x l u) :=
  ⟨fun pins s σ H Q I ⟨H0, O0, own, env, E, h⟩ => by
  cases q : fa env with
  | no => simp only [q, R.bind_no] at h; exact h.elim
  | ex k fs =>
    simp only [q, R.bind_ex] at h
    refine (de_slice ha hl hh).run pins s σ H Q I ⟨H0, O0, own, env, E, ?_⟩
    simp only [q, R.bind_ex]
    exact h
  | ok c =>
    simp only [q, R.bind_ok] at h
    cases z : isStr c with
    | true =>
      rw [sliceA_str z] at h
      refine (de_cutT ha hl hh).run pins s σ H Q I ⟨H0, O0, own, env, E, ?_⟩
      simp only [q, R.bind_ok]
      exact h
    | false =>
      rw [sliceA_not z] at h
      refine (de_slice ha hl hh).run pins s σ H Q I ⟨H0, O0, own, env, E, ?_⟩
      simp only [q, R.bind_ok]
      exact h⟩
theorem df_any (ha : PE X l (teD (X.kw la) X.mg W fa)) : PI X tg l (wfD (X.kw la) X.mg W fun en => (fa en).bind itemsA) := ⟨fun pins s σ H P I ⟨H0, O0, own, env, E, h⟩ => by
  cases q : fa env with
  | no => simp only [q, R.bind_no] at h; exact h.elim
  | ex k fs =>
    simp only [q, R.bind_ex] at h
    refine (df_seq ha).run pins s σ H P I ⟨H0, O0, own, env, E, ?_⟩
    simp only [q, R.bind_ex]
    exact h
  | ok c =>
    simp only [q, R.bind_ok] at h
    cases z : isStr c with
    | true =>
      rw [itemsA_str z] at h
      refine (df_str ha).run pins s σ H P I ⟨H0, O0, own, env, E, ?_⟩
      simp only [q, R.bind_ok]
      exact h
    | false =>
      rw [itemsA_not z] at h
      refine (df_seq ha).run pins s σ H P I ⟨H0, O0, own, env, E, ?_⟩
      simp only [q, R.bind_ok]
      exact h⟩
theorem di_any (ha : PE X l (tpD (X.kw la) X.mg W fa)) : PI X tg l (wcD (X.kw la) X.mg W fun en => (fa en).bind itemsA) := ⟨fun pins s σ H P I ⟨H0, O0, own, env, E, h⟩ => by
  cases q : fa env with
  | no => simp only [q, R.bind_no] at h; exact h.elim
  | ex k fs =>
    simp only [q, R.bind_ex] at h
    refine (di_seq ha).run pins s σ H P I ⟨H0, O0, own, env, E, ?_⟩
    simp only [q, R.bind_ex]
    exact h
  | ok c =>
    simp only [q, R.bind_ok] at h
    cases z : isStr c with
    | true =>
      rw [itemsA_str z] at h
      refine (di_of (df_str (de_of ha))).run pins s σ H P I ⟨H0, O0, own, env, E, ?_⟩
      have e : (Cell.val c) = .ok c := by
        unfold isStr at z
        split at z
        · rfl
        · cases z
      simp only [q, R.bind_ok, e]
      exact h
    | false =>
      rw [itemsA_not z] at h
      refine (di_seq ha).run pins s σ H P I ⟨H0, O0, own, env, E, ?_⟩
      simp only [q, R.bind_ok]
      exact h⟩
theorem units65 {k : Nat} {A : Around} (hr : Room k A) : A.units + 65 < cLine := by have := hr.un; omega
end
end DL
/-! ## DL, part 17: dicts in programs -/
namespace DL
open PySem PySem.Spec PyProof.Rows L2
/-! ### plain functions -/
def inDD (x y : Cell) : R Cell := match x, y with
  | .d xd, .dic kvs => match asKey xd kvs with
    | some k => .ok (.d (.bool (dget kvs k).isSome))
    | none => .no
  | _, _ => .no
def notInDD (x y : Cell) : R Cell := match x, y with
  | .d xd, .dic kvs => match asKey xd kvs with
    | some k => .ok (.d (.bool (!(dget kvs k).isSome)))
    | none => .no
  | _, _ => .no
def ixDD (x y : Cell) : R Cell := match y, x with
  | .d xd, .dic kvs => match asKey xd kvs with
    | some k => match dget kvs k with
      | some yd => .ok (.d yd)
      | none => .no
    | none => .no
  | _, _ => .no
def lenDD (x : Cell) : R Cell := match x with
  | .dic kvs => .ok (.d (.int kvs.length))
  | _ => .no
/-- list(d) -/
def keysDD (x : Cell) : R Cell := match x with
  | .dic kvs => .ok (.own (kvs.map (·.1)))
  | _ => .no
def dicAt (i : Nat) (en : Env) (f : List (D × D) → Out) : Out := match en[i]? with
  | some (.dic kvs) => f kvs
  | some (.par _ (.dic kvs)) => f kvs
  | _ => .no
/-- d[x] = y -/
def putDD (kvs : List (D × D)) (x y : D) : Option (List (D × D)) := match asKey x kvs with
  | some k => if kvs.length < 16777216 then some (dput kvs k x y) else none
  | none => none
/-! ### what is asked -/
section
variable {K : KW}
def rDIn (K : KW) : R2 := fun x y H Q => ∃ a es kvs xd k, DAt K H x y a es kvs xd k ∧ Q (.bl (dget kvs k).isSome) H
def rDNotIn (K : KW) : R2 := fun x y H Q => ∃ a es kvs xd k, DAt K H x y a es kvs xd k ∧ Q (.bl (!(dget kvs k).isSome)) H
theorem DAt_of {H : Hp} {O : Addr → Prop} {x y : V} {xd : D} {kvs : List (D × D)} {k : NestedKey} (h1 : PeekR K H O (.d xd) x) (h2 : PeekR K H O (.dic kvs) y) (h : asKey xd kvs = some k) : ∃ a es, DAt K H x y a es kvs xd k ∧ EntsR K (hide H O) es kvs ∧ kvs.length ≤ sizeLine := by
  obtain ⟨_, _, d1⟩ := h1
  obtain ⟨_, a, es, e1, _, e2, e3, e4, e5⟩ := h2
  exact ⟨a, es, ⟨e1, e2, EntsR_mono hide_sub e3, e4, Dp_mono hide_sub _ _ d1, h⟩, e3, e5⟩
theorem op2_dIn : Op2 K (rDIn K) inDD := fun mg W O H σ c d v u Q hO h1 h2 h => by
  unfold inDD at h
  split at h
  · rename_i xd kvs
    split at h
    · rename_i k hk
      obtain ⟨a, es, g, _, _⟩ := DAt_of h1 h2 hk
      exact ⟨a, es, kvs, xd, k, g, h.dat (.bl _)⟩
    · exact h.elim
  · exact h.elim
theorem op2_dNotIn : Op2 K (rDNotIn K) notInDD := fun mg W O H σ c d v u Q hO h1 h2 h => by
  unfold notInDD at h
  split at h
  · rename_i xd kvs
    split at h
    · rename_i k hk
      obtain ⟨a, es, g, _, _⟩ := DAt_of h1 h2 hk
      exact ⟨a, es, kvs, xd, k, g, h.dat (.bl _)⟩
    · exact h.elim
  · exact h.elim
end
section
variable {X : Cx} {la : Nat → Addr} {W : WX} {a b c e : Expr} {fa fb fc : Env → R Cell} {pos p p' pos' : Pos}
theorem opr_dIn (hu : X.A.units + 65 < cLine) : OpR X (compareOp .In) (rDIn (X.kw la)) := by
  intro pins s σ H x y v u Q I rx ry h
  obtain ⟨al, es, kvs, xd, k, g, q⟩ := h
  obtain rfl := g.ref
  obtain rfl : u = Value.ref al := ry
  exact dd_in (la := la) (by omega) I g rx fun s3 I3 => ⟨.bl (dget kvs k).isSome, H, I3, rfl, q⟩
theorem opr_dNotIn (hu : X.A.units + 65 < cLine) : OpR X (compareOp .NotIn) (rDNotIn (X.kw la)) := by
  intro pins s σ H x y v u Q I rx ry h
  obtain ⟨al, es, kvs, xd, k, g, q⟩ := h
  obtain rfl := g.ref
  obtain rfl : u = Value.ref al := ry
  exact dd_notIn (la := la) (by omega) I g rx fun s3 I3 => ⟨.bl (!(dget kvs k).isSome), H, I3, rfl, q⟩
theorem dic_type {pins : List (Addr × Obj)} {σ : L2.St} {H : Hp} {s : Shared} {al : Addr} {es : List DictEntry} (I : Inv X pins σ H s) (e : H al = some (.ext (dicH al es))) : s.TypeIs (.ref al) "dict" := by
  obtain ⟨_, o, ep, h1, h2, _⟩ := dic_at I e
  exact ⟨o, h1, h2.1⟩
/-- d[x] -/
theorem de_dget (hu : X.A.units + 65 < cLine) (ha : PE X a (tpD (X.kw la) X.mg W fa)) (hb : PE X b (tpD (X.kw la) X.mg W fb)) (hs : NoSl b := by exact fun _ _ => rfl) : PE X (.Subscript a b pos) (teD (X.kw la) X.mg W fun en => (fa en).bind fun x => (fb en).bind fun y => ixDD x y) := by
  refine ⟨fun pins s σ H Q I h => ?_⟩
  obtain ⟨H0, O0, own, env, E, h⟩ := h
  cases q : fa env with
  | no => simp only [q, R.bind_no] at h; exact h.elim
  | ex k fs =>
    simp only [q, R.bind_ex] at h
    refine subD_of PySem.F.slot_dict_getitem.lookup hs (thn (ha.run pins s σ H (fun _ _ => False) I ⟨H0, O0, own, env, E, ?_⟩) fun u s1 ⟨_, _, _, _, z⟩ => z.elim)
    rw [q]
    exact h
  | ok cx =>
    simp only [q, R.bind_ok] at h
    cases q2 : fb env with
    | no => simp only [q2, R.bind_no] at h; exact h.elim
    | ex k fs =>
      simp only [q2, R.bind_ex] at h
      refine subD_of PySem.F.slot_dict_getitem.lookup hs (thn (ha.run pins s σ H (fun x H1 => Same H H1) I ⟨H0, O0, own, env, E, by rw [q]; exact fun v H' s _ => s⟩) fun u s1 ⟨x, H1, I1, rx, s01⟩ => thn (hb.run pins s1 σ H1 (fun _ _ => False) I1 ⟨H0, O0, own, env, E.mono s01, ?_⟩) fun u s1 ⟨_, _, _, _, z⟩ => z.elim)
      rw [q2]
      exact fun H' cls d s' w => h H' cls d (s01.trans s') w
    | ok cy =>
      simp only [q2, R.bind_ok] at h
      refine subD_of PySem.F.slot_dict_getitem.lookup hs (thn (ha.run pins s σ H (fun x H1 => Same H H1 ∧ PeekR (X.kw la) H1 (tO O0 own) cx x) I ⟨H0, O0, own, env, E, by rw [q]; exact fun v H' s r => ⟨s, r⟩⟩) fun u s1 ⟨x, H1, I1, rx, s01, rc⟩ =>
        thn (hb.run pins s1 σ H1 (fun y H2 => Same H1 H2 ∧ PeekR (X.kw la) H2 (tO O0 own) cy y) I1 ⟨H0, O0, own, env, E.mono s01, by rw [q2]; exact fun v H' s r => ⟨s, r⟩⟩) fun iv s2 ⟨y, H2, I2, ry, s12, rd⟩ => ?_)
      have h' := Hand.mono (s01.trans s12) h
      unfold ixDD at h'
      split at h'
      · rename_i xd kvs
        split at h'
        · rename_i k hk
          split at h'
          · rename_i yd hy
            obtain ⟨al, es, g, ge, _⟩ := DAt_of rd (PeekR_mono s12 (fun _ _ _ z => z) rc) hk
            obtain rfl := g.ref
            obtain rfl : u = Value.ref al := rx
            refine ⟨dic_type I2 g.at_, ?_⟩
            exact dd_getH (by omega) I2 g ge ry hy fun v w' s3 I3 r1 r2 => ⟨v, H2, I3, r1, h'.dat r2⟩
          · exact h'.elim
        · exact h'.elim
      · exact h'.elim
/-- {} -/
theorem ObjOk_dic0 {P : Program} {w : World} {H : Hp} (h : Heap) (hb : sysModules < h.objs.size) : ObjOk P w H (h.push { cls := .type "dict", data := .dict #[] }) h.objs.size (.ext (dicH h.objs.size [])) :=
  ⟨⟨beq_eq_false_iff_ne.mpr (Ne.symm (Nat.ne_of_lt hb)), _, 0, Heap.get?_push_size _ rfl, ⟨rfl, rfl, rfl⟩, rfl⟩, ⟨_, Heap.get?_push_size _ rfl⟩, fun h1 h2 ⟨q1, o, ep, q2, q3, q4⟩ k => ⟨q1, o, ep, k o q2, q3, q4⟩⟩
def tDNew : TE := fun _ H Q => ∀ p, H p = none → Q (.ref p) (L2.upd H p (.ext (dicH p [])))
theorem pe_dnew : PE X (.Dict [] [] pos) tDNew := ⟨fun pins s σ H Q I h =>
  wpAny_Dict_empty ⟨.ref s.heap.objs.size, _, I.laid (a := s.heap.objs.size) (o := .ext (dicH s.heap.objs.size [])) (t' := s.toks) (fun _ _ q => Heap.get?_push_of_some _ q) (Nat.le_refl _) (ObjOk_dic0 s.heap I.big), rfl, h _ (I.hok.fresh (Nat.le_refl _))⟩⟩
theorem KeysOk_nil : KeysOk [] := ⟨fun p h => (by cases h), List.nodup_nil, .inl fun p h => (by cases h)⟩
theorem de_dnew : PE X (.Dict [] [] pos) (teD (X.kw la) X.mg W fun _ => .ok (.dic [])) := PE.imp pe_dnew fun σ H Q ⟨H0, O0, own, env, E, h⟩ p hp => by
  refine h (.ref p) _ [p] (fun b o e => by rw [upd_ne (ne_of_none e hp)]; exact e) (fun a ha => by rw [List.mem_singleton.mp ha]; exact hp) (by simp) ⟨p, [], rfl, rfl, upd_same, trivial, KeysOk_nil, Nat.zero_le _⟩
/-- len(d) -/
theorem call_len_dic : CallR X (.builtin "len") (fun xs H Q => ∃ a es, xs = [.ref a] ∧ H a = some (.ext (dicH a es)) ∧ es.length ≤ sizeLine ∧ Q (.int es.length) H) := by
  intro pins s σ H xs us Q I r h
  obtain ⟨al, es, rfl, e, hl, q⟩ := h
  obtain ⟨u, eu, rx⟩ := vals1 r
  subst eu
  cases rx
  obtain ⟨hd, o, ep, h1, h2, h3⟩ := dic_at I e
  have hm : s.heap.DictRaw al es.toArray ep := ⟨o, h1, h2, h3⟩
  have sz := sizeLine_eq
  have es_ : ((es.toArray.size : Nat) : Int) = (es.length : Int) := by simp
  refine PyProof.Rows.call_len_slot (n := (es.toArray.size : Nat)) hm.typeIs PySem.F.slot_dict_len (fun Q' hq => call_len_raw hd hm hq) (by omega) (by rw [es_]; omega) ?_
  exact ⟨.int es.length, H, I.tok _, ⟨_, by rw [es_]⟩, q⟩
theorem op1_lenD {K : KW} : Op1 K (fun x H Q => ∃ a es, [x] = [V.ref a] ∧ H a = some (.ext (dicH a es)) ∧ es.length ≤ sizeLine ∧ Q (.int es.length) H) lenDD := fun mg W O H σ c v Q hO h1 h => by
  unfold lenDD at h
  split at h
  · rename_i kvs
    obtain ⟨_, a, es, rfl, _, e2, e3, e4, e5⟩ := h1
    refine ⟨a, es, rfl, e2, by rw [EntsR_len e3]; exact e5, ?_⟩
    rw [EntsR_len e3]
    exact h.dat (.int _)
  · exact h.elim
theorem de_lenD (hm : X.mg "len" = none) (ha : PE X a (tpD (X.kw la) X.mg W fa)) (hg : Gl X "len" := by rfl)
    (he : starEach (a :: []) X.env = (false, eval a X.env) :: starEach [] X.env := by rfl) (hpl : (backTo pos (starEach [] X.env)).any (·.1) = false := by rfl) :
    PE X (.Call (.Name "len" p) [a] [] pos) (teD (X.kw la) X.mg W fun en => (fa en).bind lenDD) := de_b1 call_len_dic hm PySem.boot_len op1_lenD ha hg (by decide) (by decide) he hpl
/-- list(d): its keys -/
theorem keys_vals {K : KW} {G : Hp} : ∀ {es : List DictEntry} {ps : List (D × D)}, EntsR K G es ps → ∃ vs, Vals vs (es.map (·.key)) ∧ DpAll K G vs (ps.map (·.1))
  | [], [], _ => ⟨[], .nil, .nil⟩
  | e :: es, p :: ps, ⟨⟨x, y, k, h1, h2, h3, h4, h5⟩, r⟩ => by
    obtain ⟨vs, r1, r2⟩ := keys_vals r
    exact ⟨x :: vs, .cons h1 r1, .cons h3 r2⟩
  | [], _ :: _, r => r.elim
  | _ :: _, [], r => r.elim
theorem call_list_dic (hc : X.calm = true) : CallR X (.type "list") (fun xs H Q => ∃ a es vs, xs = [.ref a] ∧ H a = some (.ext (dicH a es)) ∧ es.length ≤ sizeLine ∧ Vals vs (es.map (·.key)) ∧ ∀ p, H p = none → Q (.ref p) (L2.upd H p (.lst vs))) := by
  intro pins s σ H xs us Q I r h
  obtain ⟨al, es, vs, rfl, e, hl, hv, q⟩ := h
  obtain ⟨u, eu, rx⟩ := vals1 r
  subst eu
  cases rx
  obtain ⟨hd, o, ep, h1, h2, h3⟩ := dic_at I e
  have hm : s.heap.DictRaw al es.toArray ep := ⟨o, h1, h2, h3⟩
  refine PySem.W.kdl_call (KdlSrc.rawDict hd) (I.ok.hd hc) hm (by simpa using hl) fun h' tk acc c' hk hD hacc => ?_
  have ea : acc.toList = es.map (·.key) := by
    refine List.ext_getElem? fun i => ?_
    by_cases hi : i < es.length
    · have hi' : i < acc.size := by rw [hacc.1]; simpa using hi
      obtain ⟨hi2, e2⟩ := hacc.2 i acc[i] (by rw [Array.getElem?_eq_getElem hi'])
      rw [Array.getElem?_toList, Array.getElem?_eq_getElem hi', List.getElem?_map, List.getElem?_eq_getElem hi, e2]
      simp
    · have hi' : acc.size ≤ i := by
        rw [hacc.1]
        simpa using hi
      rw [Array.getElem?_toList, Array.getElem?_eq_none hi', List.getElem?_eq_none (by simpa using hi)]
  have lv : vs.length = es.length := by
    have := hv.length
    simpa using this
  refine ⟨.ref s.heap.objs.size, L2.upd H s.heap.objs.size (.lst vs), I.laid (t' := tk) hk (Nat.le_refl _) (show ObjOk X.prog X.w _ _ _ (.lst vs) from ⟨by rw [lv]; exact hl, acc.toList, c', by rw [ea]; exact hv, by rw [Array.toArray_toList]; exact hD⟩), rfl, q _ (I.hok.fresh (Nat.le_refl _))⟩
theorem op1_keysD {K : KW} : Op1 K (fun x H Q => ∃ a es vs, [x] = [V.ref a] ∧ H a = some (.ext (dicH a es)) ∧ es.length ≤ sizeLine ∧ Vals vs (es.map (·.key)) ∧ ∀ p, H p = none → Q (.ref p) (L2.upd H p (.lst vs))) keysDD := fun mg W O H σ c v Q hO h1 h => by
  unfold keysDD at h
  split at h
  · rename_i kvs
    obtain ⟨_, a, es, rfl, _, e2, e3, e4, e5⟩ := h1
    obtain ⟨vs, r1, r2⟩ := keys_vals e3
    exact ⟨a, es, vs, rfl, e2, by rw [EntsR_len e3]; exact e5, r1, h.newL r2⟩
  · exact h.elim
theorem de_keysD (hc : X.calm = true) (hm : X.mg "list" = none) (ha : PE X a (tpD (X.kw la) X.mg W fa)) (hg : Gl X "list" := by rfl)
    (he : starEach (a :: []) X.env = (false, eval a X.env) :: starEach [] X.env := by rfl) (hpl : (backTo pos (starEach [] X.env)).any (·.1) = false := by rfl) :
    PE X (.Call (.Name "list" p) [a] [] pos) (teD (X.kw la) X.mg W fun en => (fa en).bind keysDD) := de_t1 (call_list_dic hc) hm (by decide +kernel) op1_keysD ha hg (by decide) (by decide) he hpl
theorem dicAt_some {K : KW} {mg : Str → Option Value} {H0 H : Hp} {O0 O : Addr → Prop} {i : Nat} {en : Env} {f : List (D × D) → Out} {D : Ends} (h : OutH K mg W H0 O0 H O D (dicAt i en f)) : ∃ kvs, (en[i]? = some (.dic kvs) ∨ ∃ k, en[i]? = some (.par k (.dic kvs))) ∧ OutH K mg W H0 O0 H O D (f kvs) := by
  unfold dicAt at h
  split at h
  · rename_i kvs q
    exact ⟨kvs, .inl q, h⟩
  · rename_i k kvs q
    exact ⟨kvs, .inr ⟨k, q⟩, h⟩
  · exact h.elim
theorem dic_slot {K : KW} {H0 H : Hp} {O0 : Addr → Prop} {own : Nat → List Addr} {σ : L2.St} {env : Env} {i : Nat} {kvs : List (D × D)} (E : EnvOk K H0 H O0 own σ env) (q : env[i]? = some (.dic kvs) ∨ ∃ k, env[i]? = some (.par k (.dic kvs))) :
    ∃ al es, σ[i]? = some (some (.ref al)) ∧ own i = [al] ∧ H al = some (.ext (dicH al es)) ∧ EntsR K (hide H (tO O0 own)) es kvs ∧ KeysOk kvs ∧ kvs.length ≤ sizeLine ∧
      ∀ H' O' kvs', CellR K H' O' (own i) (.dic kvs') (.ref al) → SlotR K H' O' (own i) (wrapC (.dic kvs') (env.getD i .un)) (some (some (.ref al))) := by
  rcases q with q | ⟨k, q⟩
  · obtain ⟨v, e1, al, es, rfl, eo, e2, e3, e4, e5⟩ := E.get q (fun z => by cases z)
    refine ⟨al, es, e1, eo, e2, e3, e4, e5, fun H' O' kvs' r => .inr ⟨.ref al, rfl, ?_⟩⟩
    rw [List.getD_eq_getElem?_getD, q]
    exact r
  · obtain ⟨v, e1, r⟩ := E.get q (fun z => by cases z)
    obtain ⟨rfl, al, es, e0, eo, e2, e3, e4, e5⟩ := CellR_par r
    have ea : K.la k = al := V.ref.inj e0
    subst ea
    refine ⟨K.la k, es, e1, eo, e2, e3, e4, e5, fun H' O' kvs' r => .inr ⟨.ref (K.la k), rfl, ?_⟩⟩
    rw [List.getD_eq_getElem?_getD, q]
    exact CellR_parI r
theorem putBack_eq {i : Nat} {c x : Cell} {en : Env} (h : en[i]? = some x) : putBack i c en = en.set i (wrapC c (en.getD i .un)) := by
  unfold putBack
  rw [List.getD_eq_getElem?_getD, h]
  rfl
/-- d[x] = e, d in slot i -/
theorem ds_dset (i : Nat) {x : Str} {np : Pos} (hu : X.A.units + 65 < cLine) (ho : PE X (.Name x np) (tVar i)) (hb : PE X b (teD (X.kw la) X.mg W fb)) (ha : PE X a (teD (X.kw la) X.mg W fa)) (hs : swapsWith a (some (.Subscript (.Name x np) b pos')) pos.line X.env = pure false := by rfl) :
    PS X (.Assign [.Subscript (.Name x np) b pos'] a pos) (tsD (X.kw la) X.mg W fun en => ((fa en).bind asD).into en fun yd => dicAt i en fun kvs => ((fb en).bind asD).into en fun xd => match putDD kvs xd yd with | some kvs' => .nx (putBack i (.dic kvs') en) | none => .no) := by
  refine ⟨fun pins s σ H D I h => ?_⟩
  obtain ⟨H0, O0, own, env, E, h⟩ := h
  cases q : fa env with
  | no => simp only [q, R.bind_no, R.into_no] at h; exact h.elim
  | ex k fs =>
    simp only [q, R.bind_ex, R.into_ex] at h
    refine wpAny_Assign_Subscript (thn (ha.run pins s σ H (fun _ _ => False) I ⟨H0, O0, own, env, E, ?_⟩) fun u s1 ⟨_, _, _, _, z⟩ => z.elim) hs
    rw [q]
    exact into_ex E h
  | ok c =>
    simp only [q, R.bind_ok] at h
    cases q3 : asD c with
    | no => simp only [q3, R.into_no] at h; exact h.elim
    | ex k fs => exact (asD_ex q3).elim
    | ok yd =>
      simp only [q3, R.into_ok] at h
      obtain ⟨kvs, qs, h⟩ := dicAt_some h
      cases q4 : fb env with
      | no => simp only [q4, R.bind_no, R.into_no] at h; exact h.elim
      | ex k fs =>
        simp only [q4, R.bind_ex, R.into_ex] at h
        refine wpAny_Assign_Subscript (thn (ha.run pins s σ H (fun v H1 => Same H H1) I ⟨H0, O0, own, env, E, by rw [q]; exact fun v H' os s _ _ _ => s⟩) fun r s1 ⟨v, H1, I1, rv, s01⟩ => thn (ho.run pins s1 σ H1 (fun _ H2 => H2 = H1) I1 ?_) fun u s2 ⟨y, H2, I2, ry, e2⟩ => thn (hb.run pins s2 σ H2 (fun _ _ => False) I2 ?_) fun u s3 ⟨_, _, _, _, z⟩ => z.elim) hs
        · obtain ⟨al, es, e1, _⟩ := dic_slot E qs
          exact ⟨_, e1, rfl⟩
        · subst e2
          refine ⟨H0, O0, own, env, E.mono s01, ?_⟩
          rw [q4]
          exact into_ex (E.mono s01) (OutH.mono (same_h s01) h)
      | ok cb =>
        simp only [q4, R.bind_ok] at h
        cases q5 : asD cb with
        | no => simp only [q5, R.into_no] at h; exact h.elim
        | ex k fs => exact (asD_ex q5).elim
        | ok xd =>
          simp only [q5, R.into_ok] at h
          refine wpAny_Assign_Subscript (thn (ha.run pins s σ H (fun v H1 => Same H H1 ∧ Dp X.K (hide H1 (tO O0 own)) v yd) I ⟨H0, O0, own, env, E, by rw [q]; exact fun v H' os s fr nd r => ⟨s, dat_at E fr r q3⟩⟩) fun r s1 ⟨v, H1, I1, rv, s01, dv⟩ =>
            thn (ho.run pins s1 σ H1 (fun y H2 => H2 = H1 ∧ σ[i]? = some (some y)) I1 ?_) fun u s2 ⟨y, H2, I2, ry, e2, ey⟩ => thn (hb.run pins s2 σ H2 (fun x H3 => Same H2 H3 ∧ Dp X.K (hide H3 (tO O0 own)) x xd) I2 ?_) fun iv s3 ⟨x, H3, I3, rx, s23, dx⟩ => ?_) hs
          · obtain ⟨al, es, e1, _⟩ := dic_slot E qs
            exact ⟨_, e1, rfl, e1⟩
          · subst e2
            exact ⟨H0, O0, own, env, E.mono s01, by rw [q4]; exact fun v H' os s fr nd r => ⟨s, dat_at (E.mono s01) fr r q5⟩⟩
          · subst e2
            have E3 := E.mono (s01.trans s23)
            obtain ⟨al, es, e1, eo, e2, e3, e4, e5, back⟩ := dic_slot E3 qs
            rw [e1] at ey
            cases ey
            obtain rfl : u = Value.ref al := ry
            unfold putDD at h
            split at h
            · rename_i kvs' hp
              split at hp
              · rename_i k hk
                split at hp
                · rename_i hlt
                  cases hp
                  have g : DAt (X.kw la) H3 x (.ref al) al es kvs xd k := ⟨rfl, e2, EntsR_mono hide_sub e3, e4, Dp_mono hide_sub _ _ dx, hk⟩
                  refine dd_set (la := la) (by omega) I3 g rx rv (Dp_mono hide_sub _ _ (Dp_mono (same_h s23) _ _ dv)) e5 fun es' s4 I4 hes => ?_
                  have hi : i < env.length := by
                    rcases qs with q | ⟨_, q⟩ <;> exact (List.getElem?_eq_some_iff.mp q).1
                  obtain ⟨E', s'⟩ := own_upd2 E3 (H' := L2.upd H3 al (.ext (dicH al es'))) (c := wrapC (.dic (dput kvs k xd yd)) (env.getD i .un)) hi e1 eo (fun b o n e => by rw [upd_ne n]; exact e) ⟨_, upd_same⟩ (fun sm => by
                    refine back _ _ _ ⟨al, es', rfl, eo, upd_same, hes _ (EntsR_mono sm e3) (Dp_mono sm _ _ dx) (Dp_mono sm _ _ (Dp_mono (same_h s23) _ _ dv)), dput_ok e4 hk, ?_⟩
                    have := dput_len (ps := kvs) (k := k) (x := xd) (y := yd)
                    rw [sizeLine_eq]
                    omega)
                  refine ⟨σ, _, I4, h _ _ own ?_ ((same_h (s01.trans s23)).trans s')⟩
                  have eb : putBack i (.dic (dput kvs k xd yd)) env = env.set i (wrapC (.dic (dput kvs k xd yd)) (env.getD i .un)) := by
                    rcases qs with q | ⟨_, q⟩ <;> exact putBack_eq q
                  rw [eb]
                  exact E'
                · cases hp
              · cases hp
            · exact h.elim
end
end DL
/-! ## DL, part 18: lists of whole numbers: max, min, sum, sorted, set -/
namespace DL
open PySem PySem.Spec PyProof.Rows L2
/-! ### plain functions -/
def intsOf : List D → Option (List Int)
  | [] => some []
  | .int i :: xs => (intsOf xs).map (i :: ·)
  | _ => none
theorem intsOf_map (ns : List Int) : intsOf (ns.map PyData.int) = some ns := by
  induction ns with
  | nil => rfl
  | cons n ns ih =>
    show (intsOf (ns.map PyData.int)).map (n :: ·) = _
    rw [ih]; rfl
theorem intsOf_some : ∀ {xs : List D} {ns : List Int}, intsOf xs = some ns → xs = ns.map PyData.int
  | [], ns, h => by cases h; rfl
  | .int i :: xs, ns, h => by
    obtain ⟨ms, h1, h2⟩ := Option.map_eq_some_iff.mp (show (intsOf xs).map (i :: ·) = some ns from h)
    rw [← h2, intsOf_some h1]; rfl
  | .none :: _, _, h => by cases h
  | .bool _ :: _, _, h => by cases h
  | .str _ :: _, _, h => by cases h
  | .list _ :: _, _, h => by cases h
  | .tuple _ :: _, _, h => by cases h
  | .dict _ :: _, _, h => by cases h
def intsC (x : Cell) : Option (List Int) := match x.items with
  | some xs => intsOf xs
  | none => none
/-- max(xs, default=y), min(xs, default=y) -/
def maxFD (x y : Cell) : R Cell := match intsC x, y with
  | some [], .d d => .ok (.d d)
  | some (n :: ns), .d _ => .ok (.d (.int (ns.foldl max n)))
  | _, _ => .no
def minFD (x y : Cell) : R Cell := match intsC x, y with
  | some [], .d d => .ok (.d d)
  | some (n :: ns), .d _ => .ok (.d (.int (ns.foldl min n)))
  | _, _ => .no
def sumD (x : Cell) : R Cell := match intsC x with
  | some ns => .ok (.d (.int ns.sum))
  | none => .no
def ins (a : Int) : List Int → List Int
  | [] => [a]
  | b :: l => if a ≤ b then a :: b :: l else b :: ins a l
def isort : List Int → List Int
  | [] => []
  | a :: l => ins a (isort l)
/-- sorted(xs) -/
def sortedD (x : Cell) : R Cell := match x with
  | .own xs => match intsOf xs with
    | some ns => .ok (.own ((isort ns).map PyData.int))
    | none => .no
  | .d (.list xs) => match intsOf xs with
    | some ns => .ok (.own ((isort ns).map PyData.int))
    | none => .no
  | _ => .no
def uins (a : Int) : List Int → List Int
  | [] => [a]
  | b :: l => if a < b then a :: b :: l else if a = b then b :: l else b :: uins a l
/-- the members in order, each once -/
def usort : List Int → List Int
  | [] => []
  | a :: l => uins a (usort l)
/-- sorted(set(xs)) -/
def sortSetD (x : Cell) : R Cell := match x with
  | .own xs => match intsOf xs with
    | some ns => if ns.length < 60 then .ok (.own ((usort ns).map PyData.int)) else .no
    | none => .no
  | .d (.list xs) => match intsOf xs with
    | some ns => if ns.length < 60 then .ok (.own ((usort ns).map PyData.int)) else .no
    | none => .no
  | _ => .no
/-! ### how they sort -/
theorem ins_perm (a : Int) : ∀ l, (ins a l).Perm (a :: l)
  | [] => List.Perm.refl _
  | b :: l => by
    unfold ins
    split
    · exact List.Perm.refl _
    · exact (List.Perm.cons b (ins_perm a l)).trans (List.Perm.swap a b l)
theorem isort_perm : ∀ l : List Int, (isort l).Perm l
  | [] => List.Perm.refl _
  | a :: l => (ins_perm a (isort l)).trans (List.Perm.cons a (isort_perm l))
theorem ins_sorted (a : Int) : ∀ l : List Int, l.Pairwise (· ≤ ·) → (ins a l).Pairwise (· ≤ ·)
  | [], _ => List.pairwise_singleton _ _
  | b :: l, h => by
    rw [List.pairwise_cons] at h
    unfold ins
    split
    · rename_i hab
      rw [List.pairwise_cons, List.pairwise_cons]
      refine ⟨fun c hc => ?_, h⟩
      rcases List.mem_cons.mp hc with rfl | hc
      · exact hab
      · exact Int.le_trans hab (h.1 c hc)
    · rename_i hab
      rw [List.pairwise_cons]
      refine ⟨fun c hc => ?_, ins_sorted a l h.2⟩
      rcases List.mem_cons.mp ((ins_perm a l).mem_iff.mp hc) with rfl | hc
      · omega
      · exact h.1 c hc
theorem isort_sorted : ∀ l : List Int, (isort l).Pairwise (· ≤ ·)
  | [] => List.Pairwise.nil
  | a :: l => ins_sorted a _ (isort_sorted l)
theorem sorted_eq : ∀ {l m : List Int}, l.Perm m → l.Pairwise (· ≤ ·) → m.Pairwise (· ≤ ·) → l = m
  | [], m, p, _, _ => (List.Perm.nil_eq p)
  | a :: l, [], p, _, _ => by
    have := p.length_eq
    cases this
  | a :: l, b :: m, p, h1, h2 => by
    rw [List.pairwise_cons] at h1 h2
    have e : a = b := by
      have ha : a ∈ b :: m := p.mem_iff.mp List.mem_cons_self
      have hb : b ∈ a :: l := p.mem_iff.mpr List.mem_cons_self
      rcases List.mem_cons.mp ha with e | ha
      · exact e
      · rcases List.mem_cons.mp hb with e | hb
        · exact e.symm
        · have := h1.1 b hb
          have := h2.1 a ha
          omega
    subst e
    rw [sorted_eq (List.Perm.cons_inv p) h1.2 h2.2]
theorem isort_eq {l m : List Int} (p : m.Perm l) (h : m.Pairwise (· ≤ ·)) : m = isort l := sorted_eq (p.trans (isort_perm l).symm) h (isort_sorted l)
theorem uins_mem (a : Int) : ∀ (l : List Int) (x : Int), x ∈ uins a l ↔ x = a ∨ x ∈ l
  | [], x => by
    unfold uins
    simp
  | b :: l, x => by
    unfold uins
    split
    · simp
    · split
      · rename_i e
        subst e
        simp
      · rw [List.mem_cons, uins_mem a l x, List.mem_cons]
        constructor
        · rintro (h | h | h)
          · exact .inr (.inl h)
          · exact .inl h
          · exact .inr (.inr h)
        · rintro (h | h | h)
          · exact .inr (.inl h)
          · exact .inl h
          · exact .inr (.inr h)
theorem usort_mem : ∀ (l : List Int) (x : Int), x ∈ usort l ↔ x ∈ l
  | [], x => Iff.rfl
  | a :: l, x => by
    show x ∈ uins a (usort l) ↔ _
    rw [uins_mem, usort_mem l x, List.mem_cons]
theorem uins_sorted (a : Int) : ∀ l : List Int, l.Pairwise (· < ·) → (uins a l).Pairwise (· < ·)
  | [], _ => List.pairwise_singleton _ _
  | b :: l, h => by
    have hh := h
    rw [List.pairwise_cons] at h
    unfold uins
    split
    · rename_i hab
      rw [List.pairwise_cons]
      refine ⟨fun c hc => ?_, hh⟩
      rcases List.mem_cons.mp hc with rfl | hc
      · exact hab
      · exact Int.lt_trans hab (h.1 c hc)
    · split
      · exact hh
      · rename_i h1 h2
        rw [List.pairwise_cons]
        refine ⟨fun c hc => ?_, uins_sorted a l h.2⟩
        rcases (uins_mem a l c).mp hc with rfl | hc
        · omega
        · exact h.1 c hc
theorem usort_sorted : ∀ l : List Int, (usort l).Pairwise (· < ·)
  | [] => List.Pairwise.nil
  | a :: l => uins_sorted a _ (usort_sorted l)
theorem strict_eq : ∀ {l m : List Int}, (∀ x, x ∈ l ↔ x ∈ m) → l.Pairwise (· < ·) → m.Pairwise (· < ·) → l = m
  | [], [], _, _, _ => rfl
  | [], b :: m, h, _, _ => by
    have := (h b).mpr List.mem_cons_self
    cases this
  | a :: l, [], h, _, _ => by
    have := (h a).mp List.mem_cons_self
    cases this
  | a :: l, b :: m, h, h1, h2 => by
    rw [List.pairwise_cons] at h1 h2
    have e : a = b := by
      rcases List.mem_cons.mp ((h a).mp List.mem_cons_self) with e | ha
      · exact e
      · rcases List.mem_cons.mp ((h b).mpr List.mem_cons_self) with e | hb
        · exact e.symm
        · have := h1.1 b hb
          have := h2.1 a ha
          omega
    subst e
    refine congrArg _ (strict_eq (fun x => ⟨fun hx => ?_, fun hx => ?_⟩) h1.2 h2.2)
    · rcases List.mem_cons.mp ((h x).mp (List.mem_cons_of_mem _ hx)) with e | hx'
      · have := h1.1 x hx
        omega
      · exact hx'
    · rcases List.mem_cons.mp ((h x).mpr (List.mem_cons_of_mem _ hx)) with e | hx'
      · have := h2.1 x hx
        omega
      · exact hx'
theorem usort_eq {l m : List Int} (h : ∀ x, x ∈ m ↔ x ∈ l) (s : m.Pairwise (· < ·)) : m = usort l := strict_eq (fun x => (h x).trans (usort_mem l x).symm) s (usort_sorted l)
/-! ### the calls -/
section
variable {K : KW}
theorem ints_dps {G : Hp} : ∀ {xs : List D} {vs : List V} {ns : List Int}, DpAll K G vs xs → intsOf xs = some ns → vs = ns.map V.int
  | [], _, _, .nil, e => by cases e; rfl
  | .int i :: xs, v :: vs, ns, .cons h r, e => by
    obtain ⟨ms, h1, h2⟩ := Option.map_eq_some_iff.mp (show (intsOf xs).map (i :: ·) = some ns from e)
    rw [← h2, ints_dps r h1, Dp_int h]; rfl
  | .none :: _, _, _, _, e => by cases e
  | .bool _ :: _, _, _, _, e => by cases e
  | .str _ :: _, _, _, _, e => by cases e
  | .list _ :: _, _, _, _, e => by cases e
  | .tuple _ :: _, _, _, _, e => by cases e
  | .dict _ :: _, _, _, _, e => by cases e
theorem intsC_of {H : Hp} {O : Addr → Prop} {c : Cell} {v : V} {ns : List Int} (h1 : PeekR K H O c v) (e : intsC c = some ns) : ∃ a, v = .ref a ∧ (SqL K H a (ns.map V.int) ∨ SqT K H a (ns.map V.int)) := by
  unfold intsC at e
  split at e
  · rename_i xs ex
    obtain ⟨_, r⟩ := h1
    obtain ⟨a, vs, rfl, s, q⟩ := CellR_items r ex
    rw [ints_dps q e] at s
    exact ⟨a, rfl, s⟩
  · cases e
end
theorem reads_ints {h : Heap} : ∀ {us : List Value} {ns : List Int}, IntsAre us ns → ReadsAll h us (ns.map PyData.int) [] := by
  intro us ns i
  induction i with
  | nil => exact .nil
  | cons n t _ ih => exact .cons (as := []) (bs := []) (.int n t) ih
theorem alike_ints (ns : List Int) : PySem.W.AlikeAll (ns.map PyData.int) := by
  refine ⟨fun x hx y hy => ?_, fun x hx e => ?_⟩
  · obtain ⟨i, _, rfl⟩ := List.mem_map.mp hx
    obtain ⟨j, _, rfl⟩ := List.mem_map.mp hy
    simp only [PySem.W.alike]
  · obtain ⟨i, _, rfl⟩ := List.mem_map.mp hx
    cases e
theorem depth_ints : ∀ ns : List Int, PyData.depthAll (ns.map PyData.int) = 0
  | [] => rfl
  | n :: ns => by
    show max (PyData.depth (.int n)) (PyData.depthAll (ns.map PyData.int)) = 0
    rw [depth_ints ns]
    rfl
section
variable {X : Cx} {la : Nat → Addr} {W : WX} {a b e : Expr} {fa fb : Env → R Cell} {pos p kp : Pos}
def rMaxF (K : PySem.W.Frag) : R2 := fun x z H Q => ∃ a ns, x = .ref a ∧ (SqL K H a (ns.map V.int) ∨ SqT K H a (ns.map V.int)) ∧ (ns = [] → Q z H) ∧ ∀ n ms, ns = n :: ms → Q (.int (ms.foldl max n)) H
theorem call_maxF (hc : X.calm = true) (hu : X.A.units + 65 < cLine) : CallRK X (.builtin "max") ["default"] (fun xs zs H Q => ∃ x z, xs = [x] ∧ zs = [z] ∧ rMaxF X.K x z H Q) := by
  intro pins s σ H xs zs us ws Q I r rz h
  obtain ⟨x, z, rfl, rfl, al, ns, rfl, hs, q0, q1⟩ := h
  obtain ⟨u, eu, rx⟩ := vals1 r
  subst eu
  cases rx
  obtain ⟨d, ed, rd⟩ := vals1 rz
  subst ed
  have fin : ∀ {v : Value} {bs : List Addr} {h' : Heap} {tk : Nat} {y : PyData} {ys : List PyData}, ns.map PyData.int = y :: ys → Reads h' v (PySem.W.maxD y ys) bs → (∀ b o, s.heap.get? b = some o → h'.get? b = some o) → EP X pins σ Q v { s with heap := h', toks := tk } := by
    intro v bs h' tk y ys e rv k
    cases ns with
    | nil => cases e
    | cons n ms =>
      rw [List.map_cons] at e
      injection e with e1 e2
      subst e1 e2
      rw [PySem.W.maxD_ints] at rv
      cases rv with
      | int _ t => exact ⟨.int (ms.foldl max n), H, I.kept k, ⟨t, rfl⟩, q1 n ms rfl⟩
  rcases hs with hs | hs
  · obtain ⟨its, rv, pl, _⟩ := I.list hs
    exact PySem.W.max_list_default (I.ok.hd hc) pl.isList (by rw [List.toList_toArray]; exact reads_ints (Vals.ints rv)) (alike_ints ns) (by rw [depth_ints]; omega) (fun e h' tk k => ⟨z, H, I.kept k, rd, q0 (List.map_eq_nil_iff.mp e)⟩) fun y ys i v h' tk bs e _ rr k => fin e rr k
  · obtain ⟨its, rv, pl, _⟩ := I.tuple hs
    exact PySem.W.max_tuple_default (I.ok.hd hc) pl (by rw [List.toList_toArray]; exact reads_ints (Vals.ints rv)) (alike_ints ns) (by rw [depth_ints]; omega) (fun e h' tk k => ⟨z, H, I.kept k, rd, q0 (List.map_eq_nil_iff.mp e)⟩) fun y ys i v h' tk bs e _ rr k => fin e rr k
def rMinF (K : PySem.W.Frag) : R2 := fun x z H Q => ∃ a ns, x = .ref a ∧ (SqL K H a (ns.map V.int) ∨ SqT K H a (ns.map V.int)) ∧ (ns = [] → Q z H) ∧ ∀ n ms, ns = n :: ms → Q (.int (ms.foldl min n)) H
theorem call_minF (hc : X.calm = true) (hu : X.A.units + 65 < cLine) : CallRK X (.builtin "min") ["default"] (fun xs zs H Q => ∃ x z, xs = [x] ∧ zs = [z] ∧ rMinF X.K x z H Q) := by
  intro pins s σ H xs zs us ws Q I r rz h
  obtain ⟨x, z, rfl, rfl, al, ns, rfl, hs, q0, q1⟩ := h
  obtain ⟨u, eu, rx⟩ := vals1 r
  subst eu
  cases rx
  obtain ⟨d, ed, rd⟩ := vals1 rz
  subst ed
  have fin : ∀ {v : Value} {bs : List Addr} {h' : Heap} {tk : Nat} {y : PyData} {ys : List PyData}, ns.map PyData.int = y :: ys → Reads h' v (PySem.W.minD y ys) bs → (∀ b o, s.heap.get? b = some o → h'.get? b = some o) → EP X pins σ Q v { s with heap := h', toks := tk } := by
    intro v bs h' tk y ys e rv k
    cases ns with
    | nil => cases e
    | cons n ms =>
      rw [List.map_cons] at e
      injection e with e1 e2
      subst e1 e2
      rw [PySem.W.minD_ints] at rv
      cases rv with
      | int _ t => exact ⟨.int (ms.foldl min n), H, I.kept k, ⟨t, rfl⟩, q1 n ms rfl⟩
  rcases hs with hs | hs
  · obtain ⟨its, rv, pl, _⟩ := I.list hs
    exact PySem.W.min_list_default (I.ok.hd hc) pl.isList (by rw [List.toList_toArray]; exact reads_ints (Vals.ints rv)) (alike_ints ns) (by rw [depth_ints]; omega) (fun e h' tk k => ⟨z, H, I.kept k, rd, q0 (List.map_eq_nil_iff.mp e)⟩) fun y ys i v h' tk bs e _ rr k => fin e rr k
  · obtain ⟨its, rv, pl, _⟩ := I.tuple hs
    exact PySem.W.min_tuple_default (I.ok.hd hc) pl (by rw [List.toList_toArray]; exact reads_ints (Vals.ints rv)) (alike_ints ns) (by rw [depth_ints]; omega) (fun e h' tk k => ⟨z, H, I.kept k, rd, q0 (List.map_eq_nil_iff.mp e)⟩) fun y ys i v h' tk bs e _ rr k => fin e rr k

theorem op2_maxF {K : KW} : Op2 K (fun x z H Q => ∃ x' z', [x] = [x'] ∧ [z] = [z'] ∧ rMaxF K x' z' H Q) maxFD := fun mg W O H σ c d v u Q hO h1 h2 h => by
  unfold maxFD at h
  split at h
  · rename_i d e
    obtain ⟨a, rfl, s⟩ := intsC_of h1 e
    exact ⟨_, _, rfl, rfl, a, [], rfl, s, fun _ => h.dat (Peek_d h2), fun n ms z => by cases z⟩
  · rename_i n ns d e
    obtain ⟨a, rfl, s⟩ := intsC_of h1 e
    exact ⟨_, _, rfl, rfl, a, n :: ns, rfl, s, fun z => (by cases z), fun m ms z => by
      cases z
      exact h.dat (.int _)⟩
  · exact h.elim
theorem op2_minF {K : KW} : Op2 K (fun x z H Q => ∃ x' z', [x] = [x'] ∧ [z] = [z'] ∧ rMinF K x' z' H Q) minFD := fun mg W O H σ c d v u Q hO h1 h2 h => by
  unfold minFD at h
  split at h
  · rename_i d e
    obtain ⟨a, rfl, s⟩ := intsC_of h1 e
    exact ⟨_, _, rfl, rfl, a, [], rfl, s, fun _ => h.dat (Peek_d h2), fun n ms z => by cases z⟩
  · rename_i n ns d e
    obtain ⟨a, rfl, s⟩ := intsC_of h1 e
    exact ⟨_, _, rfl, rfl, a, n :: ns, rfl, s, fun z => (by cases z), fun m ms z => by
      cases z
      exact h.dat (.int _)⟩
  · exact h.elim
/-- max(a, default=b) -/
theorem de_maxF (hc : X.calm = true) (hu : X.A.units + 65 < cLine) (hm : X.mg "max" = none) (ha : PE X a (tpD (X.kw la) X.mg W fa)) (hb : PE X b (tpD (X.kw la) X.mg W fb)) (hg : Gl X "max" := by rfl)
    (he : backTo pos (starEach (a :: []) X.env) = (false, eval a X.env) :: backTo pos (starEach [] X.env) := by rfl) (he2 : starEach (a :: []) X.env = (false, eval a X.env) :: starEach [] X.env := by rfl) (hpl : (backTo pos (starEach (a :: []) X.env)).any (·.1) = false := by rfl)
    (hall : (backToKw pos (keywordEach [⟨some "default", b, kp⟩] X.env)).all (·.1.isSome) = true := by rfl) (hnone : (backToKw pos (keywordEach [⟨some "default", b, kp⟩] X.env)).any (·.1.isNone) = false := by rfl) (hks : (backToKw pos (keywordEach [⟨some "default", b, kp⟩] X.env)).filterMap (·.1) = (["default"] : List Str) := by rfl) :
    PE X (.Call (.Name "max" p) [a] [⟨some "default", b, kp⟩] pos) (teD (X.kw la) X.mg W fun en => (fa en).bind fun x => (fb en).bind fun y => maxFD x y) := PE.imp (pe_callBK (call_maxF hc hu) hg hm (by decide +kernel) (pa_cons ha pa_nil he2) (pk_cons hb pk_nil) (by decide) (by decide) he hpl hall hnone hks) (look2 op2_maxF)
theorem de_minF (hc : X.calm = true) (hu : X.A.units + 65 < cLine) (hm : X.mg "min" = none) (ha : PE X a (tpD (X.kw la) X.mg W fa)) (hb : PE X b (tpD (X.kw la) X.mg W fb)) (hg : Gl X "min" := by rfl)
    (he : backTo pos (starEach (a :: []) X.env) = (false, eval a X.env) :: backTo pos (starEach [] X.env) := by rfl) (he2 : starEach (a :: []) X.env = (false, eval a X.env) :: starEach [] X.env := by rfl) (hpl : (backTo pos (starEach (a :: []) X.env)).any (·.1) = false := by rfl)
    (hall : (backToKw pos (keywordEach [⟨some "default", b, kp⟩] X.env)).all (·.1.isSome) = true := by rfl) (hnone : (backToKw pos (keywordEach [⟨some "default", b, kp⟩] X.env)).any (·.1.isNone) = false := by rfl) (hks : (backToKw pos (keywordEach [⟨some "default", b, kp⟩] X.env)).filterMap (·.1) = (["default"] : List Str) := by rfl) :
    PE X (.Call (.Name "min" p) [a] [⟨some "default", b, kp⟩] pos) (teD (X.kw la) X.mg W fun en => (fa en).bind fun x => (fb en).bind fun y => minFD x y) := PE.imp (pe_callBK (call_minF hc hu) hg hm (by decide +kernel) (pa_cons ha pa_nil he2) (pk_cons hb pk_nil) (by decide) (by decide) he hpl hall hnone hks) (look2 op2_minF)
/-- sorted(a), whole numbers -/
theorem seqL_ints {K : KW} {H : Hp} {O : Addr → Prop} {v : V} {xs : List D} {ns : List Int} : (PeekR K H O (.own xs) v ∨ PeekR K H O (.d (.list xs)) v) → intsOf xs = some ns → ∃ a, v = .ref a ∧ SqL K H a (ns.map V.int) := fun h e => by
  rcases h with h | h
  · obtain ⟨a, vs, rfl, s, q⟩ := Peek_own h
    rw [ints_dps q e] at s
    exact ⟨a, rfl, SqL.of s⟩
  · obtain ⟨a, vs, rfl, s, q⟩ := Dp_seq (Peek_d h)
    rw [ints_dps q e] at s
    exact ⟨a, rfl, SqL_mono hide_sub s⟩
theorem ints_dp' {K : KW} {G : Hp} : ∀ ns : List Int, DpAll K G (ns.map V.int) (ns.map PyData.int)
  | [] => .nil
  | n :: ns => .cons (.int n) (ints_dp' ns)
theorem op1_sorted {K : KW} : Op1 K (fun x H Q => ∃ (a : Addr) (ns : List Int), [x] = [V.ref a] ∧ SqL K H a (ns.map V.int) ∧ ∀ (ns' : List Int) (p : Addr), ns'.Perm ns → ns'.Pairwise (· ≤ ·) → H p = none → Q (.ref p) (L2.upd H p (.lst (ns'.map V.int)))) sortedD := fun mg W O H σ c v Q hO h1 h => by
  have go : ∀ (xs : List D) (ns : List Int), (PeekR K H O (.own xs) v ∨ PeekR K H O (.d (.list xs)) v) → intsOf xs = some ns → Hand K mg W O H σ (.ok (.own ((isort ns).map PyData.int))) Q → ∃ (a : Addr) (ns : List Int), [v] = [V.ref a] ∧ SqL K H a (ns.map V.int) ∧ ∀ (ns' : List Int) (p : Addr), ns'.Perm ns → ns'.Pairwise (· ≤ ·) → H p = none → Q (.ref p) (L2.upd H p (.lst (ns'.map V.int))) := fun xs ns h1 e h => by
    obtain ⟨a, rfl, s⟩ := seqL_ints h1 e
    refine ⟨a, ns, rfl, s, fun ns' p pm ps hp => ?_⟩
    rw [isort_eq pm ps]
    exact h.newL (ints_dp' _) p hp
  unfold sortedD at h
  split at h
  · rename_i xs
    split at h
    · rename_i ns e
      exact go xs ns (.inl h1) e h
    · exact h.elim
  · rename_i xs
    split at h
    · rename_i ns e
      exact go xs ns (.inr h1) e h
    · exact h.elim
  · exact h.elim
theorem de_sorted (hm : X.mg "sorted" = none) (ha : PE X a (tpD (X.kw la) X.mg W fa)) (hg : Gl X "sorted" := by rfl)
    (he : starEach (a :: []) X.env = (false, eval a X.env) :: starEach [] X.env := by rfl) (hpl : (backTo pos (starEach [] X.env)).any (·.1) = false := by rfl) :
    PE X (.Call (.Name "sorted" p) [a] [] pos) (teD (X.kw la) X.mg W fun en => (fa en).bind sortedD) := de_b1 cr_sortedI hm (by decide +kernel) op1_sorted ha hg (by decide) (by decide) he hpl
/-- sum(a), whole numbers in a list -/
theorem op1_sum {K : KW} : Op1 K (fun x H Q => ∃ (a : Addr) (ns : List Int), [x] = [V.ref a] ∧ SqL K H a (ns.map V.int) ∧ Q (.int ns.sum) H) (fun c => match c with | .own xs => (match intsOf xs with | some ns => .ok (.d (.int ns.sum)) | none => .no) | .d (.list xs) => (match intsOf xs with | some ns => .ok (.d (.int ns.sum)) | none => .no) | _ => .no) := fun mg W O H σ c v Q hO h1 h => by
  dsimp only at h
  split at h
  · rename_i xs
    split at h
    · rename_i ns e
      obtain ⟨a, rfl, s⟩ := seqL_ints (.inl h1) e
      exact ⟨a, ns, rfl, s, h.dat (.int _)⟩
    · exact h.elim
  · rename_i xs
    split at h
    · rename_i ns e
      obtain ⟨a, rfl, s⟩ := seqL_ints (.inr h1) e
      exact ⟨a, ns, rfl, s, h.dat (.int _)⟩
    · exact h.elim
  · exact h.elim
def sumLD (c : Cell) : R Cell := match c with | .own xs => (match intsOf xs with | some ns => .ok (.d (.int ns.sum)) | none => .no) | .d (.list xs) => (match intsOf xs with | some ns => .ok (.d (.int ns.sum)) | none => .no) | _ => .no
theorem de_sum (hc : X.calm = true) (hm : X.mg "sum" = none) (ha : PE X a (tpD (X.kw la) X.mg W fa)) (hg : Gl X "sum" := by rfl)
    (he : starEach (a :: []) X.env = (false, eval a X.env) :: starEach [] X.env := by rfl) (hpl : (backTo pos (starEach [] X.env)).any (·.1) = false := by rfl) :
    PE X (.Call (.Name "sum" p) [a] [] pos) (teD (X.kw la) X.mg W fun en => (fa en).bind sumLD) := de_b1 (cr_sum hc) hm (by decide +kernel) op1_sum ha hg (by decide) (by decide) he hpl
end
end DL
/-! ## DL, part 19: list(range(..)), tuple(range(..)) -/
namespace DL
open PySem PySem.Spec PyProof.Rows L2
def rgOkB (a b : Int) : Bool := decide (-(2 ^ 62) ≤ a ∧ a < 2 ^ 62 ∧ -(2 ^ 62) ≤ b ∧ b < 2 ^ 62 ∧ (b - a).toNat ≤ 2 ^ 24)
def rgC (f : List D → Cell) (a b : Int) : R Cell := if rgOkB a b = true then .ok (f (upFrom a (b - a).toNat)) else .no
def listRg1 (x : Cell) : R Cell := match x with
  | .d (.int b) => rgC .own 0 b
  | _ => .no
def listRg2 (x y : Cell) : R Cell := match x, y with
  | .d (.int a), .d (.int b) => rgC .own a b
  | _, _ => .no
def tupRg1 (x : Cell) : R Cell := match x with
  | .d (.int b) => rgC (fun xs => .d (.tuple xs)) 0 b
  | _ => .no
def tupRg2 (x y : Cell) : R Cell := match x, y with
  | .d (.int a), .d (.int b) => rgC (fun xs => .d (.tuple xs)) a b
  | _, _ => .no
section
variable {X : Cx} {la : Nat → Addr} {W : WX} {a b e : Expr} {fa fb : Env → R Cell} {pos pos2 p p2 : Pos}
theorem rgV_dp {K : PySem.W.Frag} {G : Hp} (a b : Int) : DpAll K G (rgV a b) (upFrom a (b - a).toNat) := by
  unfold rgV upFrom
  generalize List.range (b - a).toNat = l
  induction l with
  | nil => exact .nil
  | cons x l ih => exact .cons (.int _) ih
theorem rgC_own {K : KW} {mg : Str → Option Value} {O : Addr → Prop} {H : Hp} {σ : L2.St} {a b : Int} {Q : VK} (h : Hand K mg W O H σ (rgC .own a b) Q) : RgOk a b ∧ ∀ q, H q = none → Q (.ref q) (L2.upd H q (.lst (rgV a b))) := by
  unfold rgC at h
  split at h
  · rename_i hb
    have hb : decide (-(2 ^ 62) ≤ a ∧ a < 2 ^ 62 ∧ -(2 ^ 62) ≤ b ∧ b < 2 ^ 62 ∧ (b - a).toNat ≤ 2 ^ 24) = true := hb
    have hr := of_decide_eq_true hb
    exact ⟨hr, h.newL (rgV_dp a b)⟩
  · exact h.elim
theorem rgC_tup {K : KW} {mg : Str → Option Value} {O : Addr → Prop} {H : Hp} {σ : L2.St} {a b : Int} {Q : VK} (hO : ∀ a, O a → ∃ o, H a = some o) (h : Hand K mg W O H σ (rgC (fun xs => .d (.tuple xs)) a b) Q) : RgOk a b ∧ ∀ q, H q = none → Q (.ref q) (L2.upd H q (.tup (rgV a b))) := by
  unfold rgC at h
  split at h
  · rename_i hb
    have hb : decide (-(2 ^ 62) ≤ a ∧ a < 2 ^ 62 ∧ -(2 ^ 62) ≤ b ∧ b < 2 ^ 62 ∧ (b - a).toNat ≤ 2 ^ 24) = true := hb
    have hr := of_decide_eq_true hb
    exact ⟨hr, h.newT hO (rgV_dp a b)⟩
  · exact h.elim
theorem rg1_ok {op : Cell → R Cell} {g : Int → Int → R Cell} {P : Int → Int → Hp → VK → Prop} (ho : ∀ b, op (.d (.int b)) = g 0 b) (hn : ∀ c, (∀ b, c ≠ .d (.int b)) → op c = .no)
    (hP : ∀ (O : Addr → Prop) (H : Hp) (σ : L2.St) (a b : Int) (Q : VK), (∀ a, O a → ∃ o, H a = some o) → Hand (X.kw la) X.mg W O H σ (g a b) Q → P a b H Q) : ∀ σ H Q, teD (X.kw la) X.mg W (fun en => (fa en).bind op) σ H Q → tRg1 (teD (X.kw la) X.mg W fa) σ H (fun a b H1 => P a b H1 Q) := fun σ H Q ⟨H0, O0, own, env, E, h⟩ => by
  refine ⟨H0, O0, own, env, E, ?_⟩
  cases q : fa env with
  | no => simp only [q, R.bind_no] at h; exact h
  | ex k fs => simp only [q, R.bind_ex] at h; exact h
  | ok c =>
    simp only [q, R.bind_ok] at h
    intro v H1 os s1 _ _ r
    have h1 := Hand.mono s1 h
    by_cases z : ∃ b, c = .d (.int b)
    · obtain ⟨b, rfl⟩ := z
      rw [ho b] at h1
      exact ⟨b, Dp_int r.2, hP _ _ _ 0 b Q (E.mono s1).thereO h1⟩
    · rw [hn c (fun b e => z ⟨b, e⟩)] at h1
      exact h1.elim
theorem rg2_ok {op : Cell → Cell → R Cell} {g : Int → Int → R Cell} {P : Int → Int → Hp → VK → Prop} (ho : ∀ a b, op (.d (.int a)) (.d (.int b)) = g a b) (hn : ∀ c d, (∀ a b, ¬ (c = .d (.int a) ∧ d = .d (.int b))) → op c d = .no)
    (hP : ∀ (O : Addr → Prop) (H : Hp) (σ : L2.St) (a b : Int) (Q : VK), (∀ a, O a → ∃ o, H a = some o) → Hand (X.kw la) X.mg W O H σ (g a b) Q → P a b H Q) : ∀ σ H Q, teD (X.kw la) X.mg W (fun en => (fa en).bind fun x => (fb en).bind fun y => op x y) σ H Q → tRg2 (teD (X.kw la) X.mg W fa) (teD (X.kw la) X.mg W fb) σ H (fun a b H1 => P a b H1 Q) := fun σ H Q ⟨H0, O0, own, env, E, h⟩ => by
  refine ⟨H0, O0, own, env, E, ?_⟩
  cases q : fa env with
  | no => simp only [q, R.bind_no] at h; exact h
  | ex k fs => simp only [q, R.bind_ex] at h; exact h
  | ok c =>
    simp only [q, R.bind_ok] at h
    intro v H1 os s1 _ _ r
    refine ⟨H0, O0, own, env, E.mono s1, ?_⟩
    cases q2 : fb env with
    | no => simp only [q2, R.bind_no] at h; exact h
    | ex k fs => simp only [q2, R.bind_ex] at h; exact fun H' cls d s' w => h H' cls d (s1.trans s') w
    | ok c2 =>
      simp only [q2, R.bind_ok] at h
      intro v2 H2 os2 s2 _ _ r2
      have h1 := Hand.mono (s1.trans s2) h
      by_cases z : ∃ a b, c = .d (.int a) ∧ c2 = .d (.int b)
      · obtain ⟨a, b, rfl, rfl⟩ := z
        rw [ho a b] at h1
        exact ⟨a, b, Dp_int r.2, Dp_int r2.2, hP _ _ _ a b Q (E.mono (s1.trans s2)).thereO h1⟩
      · rw [hn c c2 (fun a b e => z ⟨a, b, e⟩)] at h1
        exact h1.elim
theorem one_no {g : Int → R Cell} {op : Cell → R Cell} (ho : ∀ c, op c = match c with | .d (.int b) => g b | _ => .no) : ∀ c, (∀ b, c ≠ .d (.int b)) → op c = .no := fun c h => by
  rw [ho]
  split
  · rename_i b
    exact absurd rfl (h b)
  · rfl
theorem two_no {g : Int → Int → R Cell} {op : Cell → Cell → R Cell} (ho : ∀ c d, op c d = match c, d with | .d (.int a), .d (.int b) => g a b | _, _ => .no) : ∀ c d, (∀ a b, ¬ (c = .d (.int a) ∧ d = .d (.int b))) → op c d = .no := fun c d h => by
  rw [ho]
  split
  · rename_i a b
    exact absurd ⟨rfl, rfl⟩ (h a b)
  · rfl
theorem de_listRg1 (hc : X.calm = true) (hm : X.mg "list" = none) (hm2 : X.mg "range" = none) (ha : PE X a (teD (X.kw la) X.mg W fa)) (hg : Gl X "list" := by rfl) (hg2 : Gl X "range" := by rfl) (na : starEach [a] X.env = (false, eval a X.env) :: starEach [] X.env := by rfl)
    (na2 : starEach [.Call (.Name "range" p2) [a] [] pos2] X.env = (false, eval (.Call (.Name "range" p2) [a] [] pos2) X.env) :: starEach [] X.env := by rfl) :
    PE X (.Call (.Name "list" p) [.Call (.Name "range" p2) [a] [] pos2] [] pos) (teD (X.kw la) X.mg W fun en => (fa en).bind listRg1) := PE.imp (pe_listRg hc hg hm (prg_1 hg2 hm2 ha na) na2) (rg1_ok (P := fun a b H Q => RgOk a b ∧ ∀ q, H q = none → Q (.ref q) (L2.upd H q (.lst (rgV a b)))) (fun _ => rfl) (one_no (fun _ => rfl)) fun _ _ _ _ _ _ _ h => rgC_own h)
theorem de_tupRg1 (hc : X.calm = true) (hm : X.mg "tuple" = none) (hm2 : X.mg "range" = none) (ha : PE X a (teD (X.kw la) X.mg W fa)) (hg : Gl X "tuple" := by rfl) (hg2 : Gl X "range" := by rfl) (na : starEach [a] X.env = (false, eval a X.env) :: starEach [] X.env := by rfl)
    (na2 : starEach [.Call (.Name "range" p2) [a] [] pos2] X.env = (false, eval (.Call (.Name "range" p2) [a] [] pos2) X.env) :: starEach [] X.env := by rfl) :
    PE X (.Call (.Name "tuple" p) [.Call (.Name "range" p2) [a] [] pos2] [] pos) (teD (X.kw la) X.mg W fun en => (fa en).bind tupRg1) := PE.imp (pe_tupRg hc hg hm (prg_1 hg2 hm2 ha na) na2) (rg1_ok (P := fun a b H Q => RgOk a b ∧ ∀ q, H q = none → Q (.ref q) (L2.upd H q (.tup (rgV a b)))) (fun _ => rfl) (one_no (fun _ => rfl)) fun _ _ _ _ _ _ hO h => rgC_tup hO h)
theorem de_listRg2 (hc : X.calm = true) (hm : X.mg "list" = none) (hm2 : X.mg "range" = none) (ha : PE X a (teD (X.kw la) X.mg W fa)) (hb : PE X b (teD (X.kw la) X.mg W fb)) (hg : Gl X "list" := by rfl) (hg2 : Gl X "range" := by rfl) (na : starEach [a, b] X.env = (false, eval a X.env) :: starEach [b] X.env := by rfl)
    (nb : starEach [b] X.env = (false, eval b X.env) :: starEach [] X.env := by rfl) (hp : (backTo pos2 (starEach [b] X.env)).any (·.1) = false := by rfl)
    (na2 : starEach [.Call (.Name "range" p2) [a, b] [] pos2] X.env = (false, eval (.Call (.Name "range" p2) [a, b] [] pos2) X.env) :: starEach [] X.env := by rfl) :
    PE X (.Call (.Name "list" p) [.Call (.Name "range" p2) [a, b] [] pos2] [] pos) (teD (X.kw la) X.mg W fun en => (fa en).bind fun x => (fb en).bind fun y => listRg2 x y) := PE.imp (pe_listRg hc hg hm (prg_2 hg2 hm2 ha hb na nb hp) na2) (rg2_ok (P := fun a b H Q => RgOk a b ∧ ∀ q, H q = none → Q (.ref q) (L2.upd H q (.lst (rgV a b)))) (fun _ _ => rfl) (two_no (fun _ _ => rfl)) fun _ _ _ _ _ _ _ h => rgC_own h)
theorem de_tupRg2 (hc : X.calm = true) (hm : X.mg "tuple" = none) (hm2 : X.mg "range" = none) (ha : PE X a (teD (X.kw la) X.mg W fa)) (hb : PE X b (teD (X.kw la) X.mg W fb)) (hg : Gl X "tuple" := by rfl) (hg2 : Gl X "range" := by rfl) (na : starEach [a, b] X.env = (false, eval a X.env) :: starEach [b] X.env := by rfl)
    (nb : starEach [b] X.env = (false, eval b X.env) :: starEach [] X.env := by rfl) (hp : (backTo pos2 (starEach [b] X.env)).any (·.1) = false := by rfl)
    (na2 : starEach [.Call (.Name "range" p2) [a, b] [] pos2] X.env = (false, eval (.Call (.Name "range" p2) [a, b] [] pos2) X.env) :: starEach [] X.env := by rfl) :
    PE X (.Call (.Name "tuple" p) [.Call (.Name "range" p2) [a, b] [] pos2] [] pos) (teD (X.kw la) X.mg W fun en => (fa en).bind fun x => (fb en).bind fun y => tupRg2 x y) := PE.imp (pe_tupRg hc hg hm (prg_2 hg2 hm2 ha hb na nb hp) na2) (rg2_ok (P := fun a b H Q => RgOk a b ∧ ∀ q, H q = none → Q (.ref q) (L2.upd H q (.tup (rgV a b)))) (fun _ _ => rfl) (two_no (fun _ _ => rfl)) fun _ _ _ _ _ _ hO h => rgC_tup hO h)
end
end DL
namespace DL
open PySem PySem.Spec PyProof.Rows L2
/-! ### sets of whole numbers, made and sorted -/
section
variable {P : Program} {w : World} {A : Around} {E : Value → Shared → Prop} {s : Shared}
set_option maxHeartbeats 3200000 in
/-- set(l), l a list of whole numbers -/
theorem set_of_list {l : Addr} {its : Array Value} (ns : List Int) {Q : Value → Shared → Prop} (noH : A.handled = none) (hl : s.heap.IsList l its) (hit : IntsAre its.toList ns) (hb : ns.length + 1 < scanBound)
    (h : ∀ (h' : Heap) (tk c : Nat), SetR w h' s.heap.objs.size (fun j => decide (j ∈ ns)) c → c ≤ ns.length → (∀ b o, s.heap.get? b = some o → h'.get? b = some o) → Q (.ref s.heap.objs.size) { s with heap := h', toks := tk }) :
    wpAny (model P w) A (call (.type "set") [.ref l]) Q E s := by
  have nsz : its.size = ns.length := (Array.length_toList (xs := its)).symm.trans (IntsAre.length hit)
  obtain ⟨c0, tl, mroE⟩ := F.called_set.mro
  have madeE := F.called_set.made
  have subE := F.called_set.sub
  refine wpAny_call (codeAny_of_tree ?_)
  show wpAny _ _ (callAny (.type "set") _) _ _ _
  refine wpAny_pure ⟨Code.quiet_builtin _ (by decide +kernel), codeAny_builtin F.entry_type_call ?_⟩
  rw [Around.under_plain (weight_type_call_type "set" [.ref l] []) rfl]
  have f1 := F.called_set.notType
  have f2 := F.called_set.canCreate
  have f3 := F.typeCall_set_1 (.ref l)
  repeat (any_goals (first | assumption | wp_step))
  let o0 : Obj := { cls := .type "set", dict := none, data := .set #[] 0 (.fresh 0 0 (!w.params.followText "set-order")) }
  refine codeAny_mono (code_set_led1 (.ref l) (E := E) (Q₁ := fun ob s1 => ob = .ref s.heap.objs.size ∧ s1 = { s with heap := s.heap.push o0 }) ⟨rfl, rfl⟩) fun r s1 hr => ?_
  cases r with
  | error _ => exact hr
  | ok fl =>
    cases fl with
    | ret ob =>
      obtain ⟨rfl, rfl⟩ := hr
      have at0 : (s.heap.push o0).get? s.heap.objs.size = some o0 := Heap.get?_push_size _ rfl
      have ty0 : Shared.TypeIs { s with heap := s.heap.push o0 } (.ref s.heap.objs.size) "set" := ⟨_, at0, rfl⟩
      have f4 := F.called_set.init.lookup
      have f5 := F.called_set.init.bind (.ref s.heap.objs.size)
      repeat (any_goals (first | assumption | wp_step))
      refine codeAny_mono (codeAny_call_builtin (R := wants (fun r s2 => r = .none ∧ ∃ h' tk c, s2 = { s with heap := h', toks := tk } ∧ SetR w h' s.heap.objs.size (fun j => decide (j ∈ ns)) c ∧ c ≤ ns.length ∧ (∀ b o, s.heap.get? b = some o → h'.get? b = some o)) E)
        F.called_set.init.plain F.entry_set_init (check_set_init_1 ty0 ?_)) fun r2 s2 hr2 => ?_
      · obtain ⟨ol, hol, hcl, nl, hdl⟩ := hl
        obtain ⟨c1, d1, dat1, sl1⟩ := ol
        simp only at hcl hdl
        subst hcl; subst hdl
        have hol2 : (s.heap.push o0).get? l = some { cls := .type "list", dict := d1, data := .seq its nl, slots := sl1 } := Heap.get?_push_of_some _ hol
        have g1 := F.sub_list_set
        have g2 := F.sub_list_frozenset
        have g3 : (Value.type "list" == Value.type "dict") = false := by decide
        have isl : (s.heap.push o0).IsList l its := ⟨_, hol2, rfl, nl, rfl⟩
        have lS : l < s.heap.objs.size := Heap.lt_size hol
        have zz : (s.heap.push o0).objs.size = s.heap.objs.size + 1 := Heap.size_push ..
        unfold Builtin.«set.__init__» noKeywords Builtin.Frozenset.updateFrom
        generalize hPI : pyIter = PI
        wp_walk
        subst hPI
        refine wpAny_pyIter_list isl ?_
        refine wpAny_bind (wpAny_runValue ?_)
        have noH3 : A.in1.in1.in1.handled = none := by simp [noH]
        have neI : l ≠ (s.heap.push o0).objs.size := by
          rw [zz]; exact Nat.ne_of_lt (Nat.lt_succ_of_lt lS)
        have notin : s.heap.objs.size ∉ [(s.heap.push o0).objs.size, l] := by
          rw [zz]
          intro hm
          rcases List.mem_cons.mp hm with e | hm
          · exact absurd e (Nat.ne_of_lt (Nat.lt_succ_self _))
          · exact absurd (List.mem_singleton.mp hm) (Nat.ne_of_gt lS)
        have vals : ∀ (i : Nat) (v : Value), its[i]? = some v → ∃ k t, ns[i]? = some k ∧ v = .int k t := fun i v hv => by
          have hi : i < ns.length := by rw [← nsz]; exact (Array.getElem?_eq_some_iff.mp hv).1
          obtain ⟨t, e⟩ := PyProof.Rows.IntsAre.int_at hit i v (by rw [Array.getElem?_toList]; exact hv)
          refine ⟨ns[i], t, List.getElem?_eq_getElem hi, ?_⟩
          rw [e, List.getD_eq_getElem?_getD, List.getElem?_eq_getElem hi]
          rfl
        refine set_update_ints ((Walks.list noH3 _ l neI its).toS) s.heap.objs.size notin ns nsz hb vals (its.size - 0) 0 _ (by omega) (Nat.zero_le _) ⟨⟨_, Heap.get?_push_size _ rfl, rfl, rfl⟩, (isl.push _)⟩ ⟨0, Nat.le_refl 0, setR_new_at (Heap.get?_push_of_some _ at0)⟩ ?_
        intro s3 c3 hm hc3 hS3
        obtain ⟨h3, q1, q2, q3, q4⟩ := s3
        have e1 : q1 = s.gens := hm.gens
        have e2 : q2 = s.drawn := hm.drawn
        have e3 : q4 = s.os := hm.os
        subst e1; subst e2; subst e3
        show wpAny _ _ _ _ _ _
        refine wpAny_pure ?_
        show wpAny _ _ (ret Value.none) _ _ _
        rw [nsz] at hc3
        refine wpAny_pure ⟨rfl, h3, q3, c3, rfl, hS3, hc3, fun b o e => ?_⟩
        have hb0 : b < s.heap.objs.size := Heap.lt_size e
        refine hm.heap b o (fun z => ?_) (Heap.get?_push_of_some _ (Heap.get?_push_of_some _ e))
        rcases List.mem_cons.mp z with z | z
        · exact absurd z (Nat.ne_of_lt hb0)
        · have z := List.mem_singleton.mp z
          rw [zz] at z
          exact absurd z (Nat.ne_of_lt (Nat.lt_succ_of_lt hb0))
      · cases r2 with
        | error _ => exact hr2
        | ok fl2 =>
          cases fl2 with
          | ret r =>
            obtain ⟨rfl, h', tk, c', rfl, p1, p2, p3⟩ := hr2
            repeat (any_goals (first | assumption | wp_step))
            exact h _ _ _ p1 p2 p3
          | _ => exact hr2.elim
    | _ => exact hr.elim
end

section
variable {X : Cx} {la : Nat → Addr} {W : WX} {a : Expr} {fa : Env → R Cell} {pos p p2 pos2 : Pos}
theorem call_set_ints (hc : X.calm = true) : CallR X (.type "set") (fun xs H Q => ∃ (l : Addr) (ns : List Int), xs = [V.ref l] ∧ SqL X.K H l (ns.map V.int) ∧ ns.length < 60 ∧ ∀ p c, H p = none → c ≤ ns.length → Q (.ref p) (L2.upd H p (SetO X.w p (fun j => decide (j ∈ ns)) c))) := by
  intro pins s σ H xs us Q I r h
  obtain ⟨l, ns, rfl, hs, hl, q⟩ := h
  obtain ⟨u, eu, rx⟩ := vals1 r
  subst eu
  cases rx
  obtain ⟨its, rv, pl, _⟩ := I.list hs
  refine set_of_list ns (I.ok.hd hc) pl.isList (by rw [List.toList_toArray]; exact Vals.ints rv) (by have : scanBound = 4096 := rfl; omega) fun h' tk c hR hcl k => ?_
  exact ⟨.ref s.heap.objs.size, L2.upd H s.heap.objs.size (SetO X.w s.heap.objs.size (fun j => decide (j ∈ ns)) c), I.laid (t' := tk) k (Nat.le_refl _) (setO_new hR), rfl, q _ _ (I.hok.fresh (Nat.le_refl _)) hcl⟩
end
end DL
namespace DL
open PySem PySem.Spec PyProof.Rows L2
section
variable {X : Cx} {la : Nat → Addr} {W : WX} {a : Expr} {fa : Env → R Cell} {pos p p2 pos2 : Pos}
/-- sorted(set(a)) -/
theorem de_sortSet (hc : X.calm = true) (hm : X.mg "sorted" = none) (hm2 : X.mg "set" = none) (ha : PE X a (tpD (X.kw la) X.mg W fa)) (hg : Gl X "sorted" := by rfl) (hg2 : Gl X "set" := by rfl)
    (he : starEach (a :: []) X.env = (false, eval a X.env) :: starEach [] X.env := by rfl) (hpl : (backTo pos2 (starEach [] X.env)).any (·.1) = false := by rfl)
    (he2 : starEach ((.Call (.Name "set" p2) [a] [] pos2) :: []) X.env = (false, eval (.Call (.Name "set" p2) [a] [] pos2) X.env) :: starEach [] X.env := by rfl) (hpl2 : (backTo pos (starEach [] X.env)).any (·.1) = false := by rfl) :
    PE X (.Call (.Name "sorted" p) [.Call (.Name "set" p2) [a] [] pos2] [] pos) (teD (X.kw la) X.mg W fun en => (fa en).bind sortSetD) :=
  PE.imp (pe_callB (cr_sortedSet hc) hg hm (by decide +kernel) (pa_cons (pe_callTy (call_set_ints hc) hg2 hm2 (by decide +kernel) (pa_cons ha pa_nil he) (by decide) (by decide) he hpl) pa_nil he2) (by decide) (by decide) he2 hpl2) fun σ H Q ⟨H0, O0, own, env, E, h⟩ => by
  refine ⟨H0, O0, own, env, E, ?_⟩
  cases q : fa env with
  | no => simp only [q, R.bind_no] at h; exact h
  | ex k fs => simp only [q, R.bind_ex] at h; exact h
  | ok c =>
    simp only [q, R.bind_ok] at h
    intro v H1 s1 r1
    have h1 := Hand.mono s1 h
    have go : ∀ (xs : List D) (ns : List Int), (PeekR (X.kw la) H1 (tO O0 own) (.own xs) v ∨ PeekR (X.kw la) H1 (tO O0 own) (.d (.list xs)) v) → intsOf xs = some ns → ns.length < 60 → Hand (X.kw la) X.mg W (tO O0 own) H1 σ (.ok (.own ((usort ns).map PyData.int))) Q →
        ∃ (l : Addr) (ns : List Int), [v] = [V.ref l] ∧ SqL X.K H1 l (ns.map V.int) ∧ ns.length < 60 ∧ ∀ p c, H1 p = none → c ≤ ns.length → rSortedSet X.w [V.ref p] (L2.upd H1 p (SetO X.w p (fun j => decide (j ∈ ns)) c)) Q := fun xs ns h1 e hl h => by
      obtain ⟨a, rfl, s⟩ := seqL_ints h1 e
      refine ⟨a, ns, rfl, s, hl, fun p c hp hc => ⟨p, _, c, rfl, upd_same, by omega, fun ms q hs hm hlm hq => ?_⟩⟩
      have em : ms = usort ns := usort_eq (fun x => by rw [hm x]; exact decide_eq_true_iff) hs
      subst em
      have hq1 : H1 q = none := by
        by_cases z : q = p
        · rw [z]; exact hp
        · rw [upd_ne z] at hq; exact hq
      have sm : Same H1 (L2.upd (L2.upd H1 p (SetO X.w p (fun j => decide (j ∈ ns)) c)) q (.lst ((usort ns).map V.int))) := fun b o eb => by
        rw [upd_ne (ne_of_none eb hq1), upd_ne (ne_of_none eb hp)]
        exact eb
      exact h (.ref q) _ [q] sm (fun a ha => by rw [List.mem_singleton.mp ha]; exact hq1) (by simp) ⟨q, _, rfl, rfl, upd_same, ints_dp' _⟩
    unfold sortSetD at h1
    split at h1
    · rename_i xs
      split at h1
      · rename_i ns e
        split at h1
        · rename_i hl
          exact go xs ns (.inl r1) e hl h1
        · exact h1.elim
      · exact h1.elim
    · rename_i xs
      split at h1
      · rename_i ns e
        split at h1
        · rename_i hl
          exact go xs ns (.inr r1) e hl h1
        · exact h1.elim
      · exact h1.elim
    · exact h1.elim
end
end DL
/-! ## DL, part 23: {k: v}; xs.index(x); d[i] += e -/
namespace DL
open PySem PySem.Spec PyProof.Rows L2
def d1D (x y : Cell) : R Cell := match asD x, asD y with
  | .ok xd, .ok yd => match asKey xd [] with
    | some _ => .ok (.dic [(xd, yd)])
    | none => .no
  | _, _ => .no
section
variable {X : Cx} {la : Nat → Addr} {pins : List (Addr × Obj)} {σ : L2.St} {H G : Hp} {s : Shared} {a : Addr} {es : List DictEntry} {kvs : List (D × D)} {A : Around} {E : Value → Shared → Prop}
/-- d[x] = v, as a display does it -/
theorem dd_store {Q : Unit → Shared → Prop} {x y v : V} {u r : Value} {xd yd : D} {k : NestedKey} (hu : A.units + 9 < cLine) (I : Inv X pins σ H s) (g : DAt (X.kw la) H x y a es kvs xd k) (rx : RelV x u) (rv : RelV v r) (dv : Dp X.K H v yd) (hl : kvs.length ≤ sizeLine)
    (h : ∀ es' s', Inv X pins σ (L2.upd H a (.ext (dicH a es'))) s' → (∀ G, EntsR (X.kw la) G es kvs → Dp X.K G x xd → Dp X.K G v yd → EntsR (X.kw la) G es' (dput kvs k xd yd)) → Q () s') :
    wpAny (model X.prog X.w) A (dictSet a u r) Q E s := by
  obtain ⟨hk, hc⟩ := asKey_of g.as
  have hd := (dic_at I g.at_).1
  have mu : Mut (H a) := by rw [g.at_]; exact True.intro
  rcases isTup_cases xd with t | t
  · obtain ⟨b, rfl, rfl, hb⟩ := key_tup I g.key rx hk t
    have tl : ∀ p ∈ kvs, isTup p.1 = true := fun p hp => by rw [hc p hp, t]
    have dd := dic_tup I g.at_ g.ents g.ok tl
    refine wpAny_dictSet_heap (knd := nestedKind X.prog X.w) (k := k) (hsz := by rw [tabT_len g.ents]; exact hl) (show A.units + 8 < cLine by omega) hb dd fun h' dd' hs => ?_
    obtain ⟨o, es', ep, q1, q2, q3, q4, _, _⟩ := dd'
    refine h es'.toList _ (d_write I mu hs ⟨o, q1⟩ (dic_new hd q1 q2 (by rw [q3]))) fun G e1 e2 e3 => ?_
    rw [q4]
    exact TabT_ents rfl (TabT_put (tabT_of e1 tl) hk e2 rv e3)
  · have fl : ∀ p ∈ kvs, isTup p.1 = false := fun p hp => by rw [hc p hp, t]
    have dd := dic_flat I g.at_ g.ents g.ok fl
    refine wpAny_dictSet_pairs (knd := flatKind X.prog X.w) (k := leafN k) (hsz := by rw [tabF_len g.ents]; exact hl) (flat_is hk t g.key rx) dd fun h' dd' hs => ?_
    obtain ⟨o, es', ep, q1, q2, q3, q4, q5, _⟩ := dd'
    refine h es'.toList _ (d_write I mu hs ⟨o, q1⟩ (dic_new hd q1 q2 (by rw [q3]))) fun G e1 e2 e3 => ?_
    exact TabF_ents (P := X.prog) (w := X.w) rfl (TabF_put (tabF_of e1 fl) hk t rv e3) q5 (fun e he => q4 e (by simpa using he))
end
section
variable {X : Cx} {la : Nat → Addr} {W : WX} {a b : Expr} {fa fb : Env → R Cell} {pos : Pos} {ta tb : TE}
def tD1 (K : KW) (ta tb : TE) : TE := fun σ H Q => ∀ p, H p = none → ta σ (L2.upd H p (.ext (dicH p []))) fun x H1 => tb σ H1 fun y H2 => ∃ xd yd k, DAt K H2 x (.ref p) p [] [] xd k ∧ Dp K H2 y yd ∧
  ∀ es', (∀ G, Dp K G x xd → Dp K G y yd → EntsR K G es' (dput [] k xd yd)) → Q (.ref p) (L2.upd H2 p (.ext (dicH p es')))
theorem pe_d1 (hu : X.A.units + 65 < cLine) (ha : PE X a ta) (hb : PE X b tb)
    (hshape : (evalEachOpt [some a] X.env).zip ((evalEach [b] X.env).map fun v => do let x ← v; standAt pos; pure x) = [(eval a X.env, (do let x ← eval b X.env; standAt pos; pure x))].map fun p => (some p.1, p.2) := by rfl) :
    PE X (.Dict [some a] [b] pos) (tD1 (X.kw la) ta tb) := by
  refine ⟨fun pins s σ H Q I h => ?_⟩
  rw [arm_eval_Dict, hshape, dictDisplay_pairs _ (by simp) (by simp)]
  refine wpAny_bind (wpAny_standAt (wpAny_bind ?_))
  unfold subDict
  refine wpAny_bind (wpAny_alloc ?_)
  refine wpAny_bind (wpAny_holding ?_)
  rw [if_pos (by simp)]
  have hp := I.hok.fresh (Nat.le_refl s.heap.objs.size)
  have I1 := I.laid (a := s.heap.objs.size) (o := .ext (dicH s.heap.objs.size [])) (t' := s.toks) (fun _ _ q => Heap.get?_push_of_some _ q) (Nat.le_refl _) (ObjOk_dic0 s.heap I.big)
  have h1 := h _ hp
  generalize s.heap.objs.size = p at *
  unfold evalPairs
  refine wpAny_bind (wpAny_bind (thn (ha.run pins _ σ _ _ I1 h1) fun u s1 ⟨x, H1, I2, rx, q1⟩ => ?_))
  refine wpAny_bind (wpAny_holding (wpAny_bind (thn (hb.run pins s1 σ H1 _ I2 q1) fun r s2 ⟨y, H2, I3, ry, xd, yd, k, g, dy, q2⟩ => ?_)))
  refine wpAny_bind (wpAny_standAt (wpAny_pure ?_))
  refine wpAny_bind (wpAny_holding ?_)
  unfold evalPairs
  refine wpAny_pure (wpAny_pure ?_)
  refine wpAny_holding ?_
  rw [List.forIn_cons]
  refine wpAny_bind (wpAny_bind (wpAny_bind (dd_store (la := la) (by omega) I3 g rx ry dy (Nat.zero_le _) fun es' s4 I4 hes => wpAny_pure ?_)))
  show wpAny _ _ (forIn [] _ _) _ _ _
  rw [List.forIn_nil]
  refine wpAny_pure (wpAny_pure (wpAny_pure (wpAny_pure ?_)))
  exact ⟨.ref p, _, I4, rfl, q2 es' fun G d1 d2 => hes G trivial d1 d2⟩
/-- {a: b} -/
theorem de_d1 (hu : X.A.units + 65 < cLine) (ha : PE X a (teD (X.kw la) X.mg W fa)) (hb : PE X b (teD (X.kw la) X.mg W fb))
    (hshape : (evalEachOpt [some a] X.env).zip ((evalEach [b] X.env).map fun v => do let x ← v; standAt pos; pure x) = [(eval a X.env, (do let x ← eval b X.env; standAt pos; pure x))].map fun p => (some p.1, p.2) := by rfl) :
    PE X (.Dict [some a] [b] pos) (teD (X.kw la) X.mg W fun en => (fa en).quiet.bind fun x => (fb en).quiet.bind fun y => d1D x y) := PE.imp (pe_d1 (la := la) hu ha hb hshape) fun σ H Q ⟨H0, O0, own, env, E, h⟩ p hp => by
  cases q1 : fa env with
  | no => simp only [q1, R.quiet, R.bind_no] at h; exact h.elim
  | ex k fs => simp only [q1, R.quiet, R.bind_no] at h; exact h.elim
  | ok cx =>
    cases q2 : fb env with
    | no => simp only [q1, q2, R.quiet, R.bind_ok, R.bind_no] at h; exact h.elim
    | ex k fs => simp only [q1, q2, R.quiet, R.bind_ok, R.bind_no] at h; exact h.elim
    | ok cy =>
      simp only [q1, q2, R.quiet, R.bind_ok] at h
      unfold d1D at h
      split at h
      · rename_i xd yd e1 e2
        split at h
        · rename_i k hk
          have sp : Same H (L2.upd H p (.ext (dicH p []))) := fun b o e => by rw [upd_ne (ne_of_none e hp)]; exact e
          have nown : ∀ i, p ∉ own i := fun i hi => by obtain ⟨o, e⟩ := E.th i p hi; rw [hp] at e; cases e
          have h0p : H0 p = none := by
            cases e : H0 p with
            | none => rfl
            | some o => have := E.same p o e; rw [hp] at this; cases this
          have E1 : EnvOk (X.kw la) (L2.upd H0 p (.ext (dicH p []))) (L2.upd H p (.ext (dicH p []))) (fun a => O0 a ∨ a = p) own σ env := by
            refine ⟨fun b o e => ?_, E.len, fun i c e => SlotR_up (hide_same sp fun a o e z => ?_) (fun a _ o e => sp a o e) (E.cell i c e), fun i a e => ?_, E.nd, E.dj, fun i a e => ?_, fun a z => ?_⟩
            · by_cases q : b = p
              · subst q; rw [upd_same] at e ⊢; exact e
              · rw [upd_ne q] at e ⊢; exact E.same b o e
            · rcases z with (z | z) | z
              · exact .inl z
              · subst z; rw [hp] at e; cases e
              · exact .inr z
            · obtain ⟨o, q⟩ := E.th i a e
              exact ⟨o, sp a o q⟩
            · rw [upd_ne (fun z : a = p => nown i (by rw [← z]; exact e))]
              exact E.fresh i a e
            · rcases z with z | z
              · obtain ⟨o, q⟩ := E.o0 a z
                exact ⟨o, by rw [upd_ne (fun z => by subst z; rw [h0p] at q; cases q)]; exact q⟩
              · subst z; exact ⟨_, upd_same⟩
          refine ⟨_, _, own, env, E1, ?_⟩
          rw [q1]
          refine fun x H1 os1 s1 fr1 nd1 r1 => ⟨_, _, own, env, E1.mono s1, ?_⟩
          rw [q2]
          refine fun y H2 os2 s2 fr2 nd2 r2 => ?_
          have dx := Dp_mono (hide_same s2 fun _ _ _ z => z) _ _ (dat_at E1 fr1 r1 e1)
          have dy := dat_at (E1.mono s1) fr2 r2 e2
          have ep : H2 p = some (.ext (dicH p [])) := s2 p _ (s1 p _ upd_same)
          refine ⟨xd, yd, k, ⟨rfl, ep, trivial, KeysOk_nil, Dp_mono hide_sub _ _ dx, hk⟩, Dp_mono hide_sub _ _ dy, fun es' hes => ?_⟩
          have s3 : Same (hide H2 (tO (fun a => O0 a ∨ a = p) own)) (hide (L2.upd H2 p (.ext (dicH p es'))) (fun a => tO O0 own a ∨ a ∈ [p])) := fun a o q => by
            obtain ⟨n, q⟩ := hide_eq.mp q
            have ap : a ≠ p := fun z => n (.inl (.inr z))
            refine hide_eq.mpr ⟨fun z => n ?_, by rw [upd_ne ap]; exact q⟩
            rcases z with (z | z) | z
            · exact .inl (.inl z)
            · exact .inr z
            · exact absurd (List.mem_singleton.mp z) ap
          refine h (.ref p) _ [p] (fun b o e => ?_) (fun a ha => by rw [List.mem_singleton.mp ha]; exact hp) (by simp) ⟨p, es', rfl, rfl, upd_same, hes _ (Dp_mono s3 _ _ dx) (Dp_mono s3 _ _ dy), dput_ok KeysOk_nil hk, by rw [sizeLine_eq]; show 1 ≤ _; omega⟩
          rw [upd_ne (ne_of_none e hp)]
          exact s2 b o (s1 b o (sp b o e))
        · exact h.elim
      · exact h.elim
end
end DL
namespace DL
open PySem PySem.Spec PyProof.Rows L2
/-! ### raise X(), except X: (X of the module, without own __init__) -/
structure Exc0 (K : PySem.W.Frag) (mg : Str → Option Value) (x : Str) : Prop where
  ex : ∃ C : Addr, mg x = some (.ref C) ∧ PySem.W.excIn K C [.type "ValueError", .type "Exception", .type "BaseException", .type "object"] "ValueError.__new__" = true ∧ PySem.W.keepIn K (.ref C) = true ∧ PySem.W.subIn K (.ref C) (.type "BaseException") = some true ∧
    PySem.W.typeIn K (.ref C) = some (.type "type") ∧ PySem.W.exmOne K (.ref C) (.ref C) = some true
section
variable {X : Cx} {la : Nat → Addr} {W : WX} {x : Str} {p pos : Pos} {g : Env → Out}
theorem pmk_x0 (T : Exc0 X.K X.mg x) (hg : Gl X x) (hdb : (x == ("__debug__" : Str)) = false := by decide) {np : Pos} : ∃ C, X.mg x = some (.ref C) ∧ PMk X (.Call (.Name x np) [] [] p) (fun _ H Q => Q (.ref C) none H) := by
  obtain ⟨C, gC, q, kC, sb, ty, _⟩ := T.ex
  refine ⟨C, gC, ?_⟩
  intro pins s σ H Q I h
  refine wpAny_Call_Name_kw (ld_glob I hg gC ?_ hdb)
  refine PySem.W.callWith_K0 I.kIn kC ?_
  obtain ⟨bm, N, nm, qn, bs, hdct, sn, sub, ab, col, dd, k0, k1, k2, k3, k5, mN, hC, hN, hni, T⟩ := exc_obj I.kIn q
  refine wpAny_call_exc_subT PySem.F.excBase_ValueError T hC hN hni (fun h' e hm => ?_) (Nat.zero_le _)
  exact mk_of I hm (raises_own sb ty) h (I.hok.gone hm.new)
theorem ds_raise0 (T : Exc0 X.K X.mg x) (tk : Takes X W) (hc : X.calm = true) (hg : Gl X x := by rfl) (hdb : (x == ("__debug__" : Str)) = false := by decide) {np : Pos} :
    PS X (.Raise (some (.Call (.Name x np) [] [] p)) none pos) (tsD (X.kw la) X.mg W fun en => .ex x [] en) := by
  obtain ⟨C, gC, pm⟩ := pmk_x0 (p := p) (np := np) T hg hdb
  refine PS.imp (ps_raise hc tk pm) fun D σ H ⟨H0, O0, own, env, E, h⟩ => ?_
  exact h σ H own (.ref C) none E (Same.refl _) ⟨⟨C, gC, rfl⟩, .inl ⟨rfl, rfl⟩⟩
def tryB (x : Str) (o : Out) (gs : Env → Out) : Out := match o with
  | .ex k _ e => if k = x then (match gs e with | .ex _ _ _ => .no | o => o) else .no
  | .rt c => .rt c
  | .nx e => .nx e
  | _ => .no
theorem ds_tryB {body suite : List Stmt} {b₀ : Stmt} {gs : Env → Out} {np hp2 p2 : Pos} (T : Exc0 X.K X.mg x)
    (hb : ∀ (W : WX) (pn : List (Addr × Obj)) (xe : Value → Shared → Prop), Takes (X.tr pn xe) W → PassesOwn (model X.prog X.w) X.A X.env xe → PSs (X.tr pn xe) body (tsD (X.kw la) X.mg W g))
    (hsu : ∀ (a : Addr) (oe : Obj) (pn : List (Addr × Obj)), PSs (X.suite a ((a, oe) :: pn)) (b₀ :: suite) (tsD (X.kw la) X.mg (fun _ _ _ _ => False) gs))
    (hs : X.stack = X.env :: X.outer := by rfl) (hf : X.env.frame = some X.env.locals := by rfl) (hg : Gl X x := by rfl) (hdb : (x == ("__debug__" : Str)) = false := by decide) :
    PS X (.Try body [.ExceptHandler (some (.Name x np)) none (b₀ :: suite) hp2] [] [] p2) (tsD (X.kw la) X.mg W fun en => tryB x (g en) gs) := by
  obtain ⟨C, gC, q, kC, sb, ty, te⟩ := T.ex
  refine PS.imp (ps_try_only (c := .ref C) (Wout := fun _ _ _ _ => False) (ts := fun a cls d D σ H => tsD (X.kw la) X.mg (fun _ _ _ _ => False) gs D σ H) hs hf ⟨hg, hdb, .inl gC⟩ takes0 hb (fun a oe cls d pn hz hd => hsu a oe pn)) fun D σ H ⟨H0, O0, own, env, E, h⟩ => ?_
  refine ⟨H0, O0, own, env, E, ?_⟩
  cases q2 : g env with
  | no => simp only [q2, tryB] at h; exact h
  | bk e => simp only [q2, tryB] at h; exact h.elim
  | ct e => simp only [q2, tryB] at h; exact h.elim
  | rt c => simp only [q2, tryB] at h; exact h
  | re c e => simp only [q2, tryB] at h; exact h.elim
  | nx e => simp only [q2, tryB] at h; exact h
  | ex k fs e =>
    simp only [q2, tryB] at h
    split at h
    · rename_i ek
      subst ek
      intro σ' H' own' cls dd E' s r
      obtain ⟨⟨C', hC, rfl⟩, _⟩ := r
      have eC : C' = C := by
        rw [gC] at hC
        cases hC
        rfl
      subst eC
      refine ⟨true, te, fun _ al hal => ?_, fun z => by cases z⟩
      have h := OutH.mono s h
      refine ⟨H0, O0, own', e, E', ?_⟩
      cases q3 : gs e with
      | ex k2 fs2 e2 => rw [q3] at h; exact h.elim
      | no => rw [q3] at h; exact h
      | rt c => rw [q3] at h; exact h
      | re c e2 => rw [q3] at h; exact h
      | nx e2 => rw [q3] at h; exact h
      | bk e2 => rw [q3] at h; exact h
      | ct e2 => rw [q3] at h; exact h
    · exact h.elim
/-! ### xs.index(x) -/
def lstC (c : Cell) : R Cell := match c.view with
  | some (.list _) => .ok c
  | _ => .no
def indexD (x y : Cell) : R Cell := match x.view, y.view with
  | some (.list ds), some d => if SeqAt.shaped (.list ds) = true ∧ SeqAt.shaped d = true ∧ ds.findIdx (fun z => PyData.eqv z d) < ds.length then .ok (.d (.int (ds.findIdx (fun z => PyData.eqv z d) : Nat))) else .no
  | _, _ => .no
variable {o b a : Expr} {fo fb fa : Env → R Cell} {cp ap : Pos}
theorem de_index (hu : X.A.units + 65 < cLine) (ho : PE X o (tpD (X.kw la) X.mg W fo)) (hb : PE X b (tpD (X.kw la) X.mg W fb))
    (hbase : attributeBase o "index" X.env (eval o X.env) = eval o X.env := by rfl)
    (hfew : ((backTo cp (starEach (b :: []) X.env)).all (fun x => !x.1) && (backToKw cp (keywordEach [] X.env)).all (fun x => x.1.isSome)
      && decide ((b :: []).length + ([] : List Keyword).length + (if ([] : List Keyword).isEmpty then 0 else 1) < 30)) = true := by rfl)
    (hline : (ap.endLine == cp.line) = true := by rfl) (hs : starEach (b :: []) X.env = (false, eval b X.env) :: starEach [] X.env := by rfl) (hplain : (backTo cp (starEach [] X.env)).any (·.1) = false := by rfl) :
    PE X (.Call (.Attribute o "index" ap) [b] [] cp) (teD (X.kw la) X.mg W fun en => ((fo en).bind lstC).bind fun x => (fb en).bind fun y => indexD x y) := by
  refine PE.imp (pe_bm PySem.F.plainAttrs_list PySem.F.slot_list_index PySem.F.type_list_index (mt_indexD hu) ho (pa_cons hb pa_nil hs) hbase hfew hline hs hplain) fun σ H Q ⟨H0, O0, own, env, E, h⟩ => ?_
  refine ⟨H0, O0, own, env, E, ?_⟩
  cases q : fo env with
  | no => simp only [q, R.bind_no] at h; exact h
  | ex k fs => simp only [q, R.bind_ex] at h; exact h
  | ok c =>
    simp only [q, R.bind_ok] at h
    intro v H1 s1 r1
    unfold lstC at h
    split at h
    · rename_i ds ed
      simp only [R.bind_ok] at h
      have dv := Peek_view r1 ed
      have dv' := dv
      cases dv with
      | lst hs ha =>
        rename_i al vs
        refine ⟨.inl ⟨rfl, _, hs⟩, H0, O0, own, env, E.mono s1, ?_⟩
        cases q3 : fb env with
        | no => simp only [q3, R.bind_no] at h; exact h
        | ex k fs => simp only [q3, R.bind_ex] at h; exact fun H' cls d s' w => h H' cls d (s1.trans s') w
        | ok d =>
          simp only [q3, R.bind_ok] at h
          intro u H2 s2 r2
          have h := Hand.mono (s1.trans s2) h
          unfold indexD at h
          rw [ed] at h
          split at h
          · rename_i ds2 y e1 e2
            cases e1
            split at h
            · rename_i hh
              obtain ⟨sh, sd, lt⟩ := hh
              refine ⟨_, u, y, ds, ds.findIdx (fun z => PyData.eqv z y), ds[ds.findIdx (fun z => PyData.eqv z y)], rfl, rfl, Dp_mono s2 _ _ dv', Peek_view r2 e2, sh, sd, List.getElem?_eq_getElem lt, List.findIdx_getElem (w := lt), fun m z' hm hz => ?_, h.dat (.int _)⟩
              have lm : m < ds.length := by omega
              have ez : z' = ds[m] := by
                rw [List.getElem?_eq_getElem lm] at hz
                exact (Option.some.inj hz).symm
              rw [ez]
              have := List.not_of_lt_findIdx hm
              simpa using this
            · exact h.elim
          · exact h.elim
    · exact h.elim
end
end DL
namespace DL
open PySem PySem.Spec PyProof.Rows L2
section
variable {X : Cx} {la : Nat → Addr} {W : WX} {a b : Expr} {fa fb : Env → R Cell} {pos : Pos}
def rGetL : V → V → Hp → VK → Prop := fun o i H Q => ∃ (p : Addr) (xs : List V) (k : Int) (z : V), o = .ref p ∧ i = .int k ∧ H p = some (.lst xs) ∧ L2.atI xs k = some z ∧ Q z H
theorem get_list : PGet X rGetL := by
  intro pins s σ H o i ov iv Q I ro ri h
  obtain ⟨p, xs, k, z, rfl, rfl, hq, he, q⟩ := h
  cases ro
  obtain ⟨t, rfl⟩ := ri
  obtain ⟨its, r, pl, hz⟩ := I.list (.inl (.inl hq))
  obtain ⟨j, h1, h2, h3, h4, h5⟩ := atI_get he
  obtain ⟨w, ew, rw'⟩ := r.get h2
  have hl := r.length
  have hn := line63
  have fin : EP X pins σ Q w s := ⟨z, H, I, rw', q⟩
  by_cases h0 : 0 ≤ k
  · have hj : k.toNat = j := by
      rw [seqIndex_of h0 h5] at h1
      exact Option.some.inj h1
    exact wpAny_getItem_list pl.isList h0 (by omega) (by rw [hj]; simpa using ew) fin
  · have hj : (k + (its.toArray.size : Int)).toNat = j := by
      rw [seqIndex_neg (by omega) h4] at h1
      rw [List.size_toArray, ← hl]
      exact Option.some.inj h1
    exact wpAny_getItem_list_neg pl.isList (by omega) (by rw [List.size_toArray] <;> omega) (by omega) (by rw [hj]; simpa using ew) fin
def augL (xs : List D) (k : Int) : Option (Nat × Int) := match ixN xs.length k with
  | none => none
  | some j => match xs[j]? with
    | some (.int m) => some (j, m)
    | _ => none
/-- xs[b] += a, xs in slot i -/
theorem ds_augI (i : Nat) {x : Str} {np tp : Pos} (ho : PE X (.Name x np) (tVar i)) (hb : PE X b (teD (X.kw la) X.mg W fb)) (ha : PE X a (teD (X.kw la) X.mg W fa))
    (hau : ∀ ov iv new, augStore b ov iv new = (do holding [new, ov, iv] (setItem ov iv new); release [new, ov, iv] []; pure .next) := by intros; rfl) :
    PS X (.AugAssign (.Subscript (.Name x np) b tp) .Add a pos) (tsD (X.kw la) X.mg W fun en => ownAt i en fun xs => ((fb en).bind cellI).into en fun k => match augL xs k with | some (j, m) => ((fa en).bind cellI).into en fun z => .nx (en.set i (.own (xs.set j (.int (m + z))))) | none => .no) :=
  PS.imp (ps_augS ho hb get_list ha ip_add set_list hau) fun D σ H ⟨H0, O0, own, env, E, h⟩ => by
  obtain ⟨xs, q4, h⟩ := ownAt_some h
  obtain ⟨al, vs, e1, eo, e2, e3⟩ := own_at E q4
  refine ⟨.ref al, e1, H0, O0, own, env, E, ?_⟩
  cases q2 : fb env with
  | no => simp only [q2, R.bind_no, R.into_no] at h; exact h
  | ex k fs => simp only [q2, R.bind_ex, R.into_ex] at h; exact into_ex E h
  | ok c2 =>
    simp only [q2, R.bind_ok] at h
    intro u H2 os2 s2 fr2 nd2 r2
    cases q5 : cellI c2 with
    | no => simp only [q5, R.into_no] at h; exact h.elim
    | ex k fs => exact (cellI_ex q5).elim
    | ok k =>
      simp only [q5, R.into_ok] at h
      have eu := cellI_ok q5 r2
      subst eu
      unfold augL at h
      cases q6 : ixN xs.length k with
      | none => rw [q6] at h; exact h.elim
      | some j =>
        rw [q6] at h
        dsimp only at h
        split at h
        · rename_i j' m' ej
          split at ej
          · rename_i m em
            cases ej
            obtain ⟨v, ev, dv⟩ := DpAll_get e3 em
            have ev' := Dp_int dv
            subst ev'
            refine ⟨al, vs, k, .int m', rfl, rfl, s2 _ _ e2, by unfold L2.atI; rw [DpAll_len e3, q6]; exact ev, H0, O0, own, env, E.mono s2, ?_⟩
            cases q7 : fa env with
            | no => simp only [q7, R.bind_no, R.into_no] at h; exact h.elim
            | ex k fs => simp only [q7, R.bind_ex, R.into_ex] at h; exact into_ex (E.mono s2) (OutH.mono (same_h s2) h)
            | ok c3 =>
              simp only [q7, R.bind_ok] at h
              intro u3 H3 os3 s3 fr3 nd3 r3
              cases q8 : cellI c3 with
              | no => simp only [q8, R.into_no] at h; exact h.elim
              | ex k fs => exact (cellI_ex q8).elim
              | ok z =>
                simp only [q8, R.into_ok] at h
                have eu := cellI_ok q8 r3
                subst eu
                have ss := s2.trans s3
                refine ⟨m', z, rfl, rfl, ?_⟩
                obtain ⟨E', s'⟩ := own_upd (E.mono ss) q4 e1 eo (ss _ _ e2) (DpAll_set (.int (m' + z)) j (DpAll_mono (same_h ss) _ _ e3))
                exact ⟨al, vs, k, j, rfl, rfl, ss _ _ e2, by rw [DpAll_len e3]; exact q6, h _ _ own E' ((same_h ss).trans s')⟩
          · cases ej
        · exact h.elim
end
end DL
/-! ## DL, part 25: a def handed on as an argument (the last one) -/
namespace DL
open PySem PySem.Spec PyProof.Rows L2
def startF (n : Nat) (ds : List D) : Env := ds.map Cell.d ++ Cell.fn 0 :: List.replicate (n - ds.length - 1) .un
def runF (N n : Nat) (g : Env → Out) (ds : List D) : R Cell := if ds.length = n then endD (g (startF N ds)) else .no
theorem runF_no {N n : Nat} {g : Env → Out} : ∀ ds : List D, ds.length ≠ n → runF N n g ds = .no := fun ds h => if_neg h
theorem runF_plain {N n : Nat} {g : Env → Out} : ∀ (ds : List D) (c : Cell), runF N n g ds = .ok c → c.plain = true := fun ds c h => by
  unfold runF at h
  split at h
  · exact endD_plain h
  · cases h
def spF (K : PySem.W.Frag) (w : World) (mg : Str → Option Value) (n : Nat) (fw : Addr) (m : List D → R Cell) : Sp := fun vs H Q E => ∃ ws, vs = ws ++ [.ref fw] ∧ spD K w mg n m ws H Q E
theorem start_okF {K : KW} {H : Hp} {O : Addr → Prop} {ds : List D} {vs : List V} {N : List Str} {fw : Addr} (hw : K.la 0 = fw) (hO : ∀ a, O a → ∃ o, H a = some o) (r : DpAll K (hide H O) vs ds) (hn : ds.length < N.length) : EnvOk K H H O (fun _ => []) (L2.start N (vs ++ [.ref fw])) (startF N.length ds) := by
  have hl := DpAll_len r
  have eO : tO O (fun _ => []) = O := by
    funext a
    refine propext ⟨fun z => ?_, fun z => .inl z⟩
    rcases z with z | ⟨_, z⟩
    · exact z
    · cases z
  refine ⟨Same.refl H, by unfold L2.start startF; simp [hl]; omega, fun i c e => ?_, fun i a h => (by cases h), fun i => List.nodup_nil, fun i j a _ h => (by cases h), fun i a h => (by cases h), hO⟩
  rw [eO]
  unfold startF at e
  unfold L2.start
  by_cases hi : i < ds.length
  · rw [List.getElem?_append_left (by simpa using hi), List.getElem?_map] at e
    rw [List.getElem?_append_left (by simp [hl]; omega), List.getElem?_map, List.getElem?_append_left (by omega)]
    rw [List.getElem?_eq_getElem hi] at e
    cases e
    obtain ⟨v, e1, e2⟩ := DpAll_get r (List.getElem?_eq_getElem hi)
    exact .inr ⟨v, by rw [e1]; rfl, rfl, e2⟩
  · rw [List.getElem?_append_right (by simpa using hi)] at e
    rw [List.length_map] at e
    by_cases h2 : i = ds.length
    · subst h2
      simp at e
      subst e
      rw [List.getElem?_append_left (by simp [hl]), List.getElem?_map, List.getElem?_append_right (by omega), hl]
      exact .inr ⟨.ref fw, by simp, by unfold CellR; exact ⟨by rw [hw], rfl⟩⟩
    · obtain ⟨j, hj⟩ : ∃ j, i - ds.length = j + 1 := ⟨i - ds.length - 1, by omega⟩
      rw [hj, List.getElem?_cons_succ, List.getElem?_replicate] at e
      split at e
      · cases e
        exact .inl rfl
      · cases e
theorem fnF {P : Program} {w : World} {mg : Str → Option Value} {base : Heap} {K : PySem.W.Frag} {x qual : Str} {fst : Stmt} {f fw : Addr} {fd : FuncData} {N ps : List Str} {k n : Nat} {gb : Env → Out} (F : Fun K x qual fst f fd) (S : FnScope N ps (defScope fst)) (hps : ps.length = n + 1) (hn : n < N.length)
    (hb : ∀ (cdv : Value) (A : Around) (outer : List PySem.Env) (s : Shared) (H : Hp) (E : XK), Room k (A.deeper (envOfC qual (defScope fst) s.heap.objs.size f cdv)) →
      PSs (cxOf (L2.CX P w) P w K mg base N qual (defScope fst) f cdv A outer s H E) (defBody fst) (tsD ⟨K, w, mg, fun _ => fw⟩ mg (fun cls d _ H => E cls d H) gb)) :
    FnOk P w K mg base (L2.CX P w) (k + 1) f fd ps (spF K w mg n fw (runF N.length n gb)) := by
  refine F.okX S (fun vs H Q E h => ?_) (fun cdv A outer s H vs Q E hr h => ⟨_, hb cdv A outer s H E hr, ?_⟩)
  · obtain ⟨ws, rfl, O, ds, _, hl, r, _⟩ := h
    rw [List.length_append, DpAll_len r, hl, hps]; rfl
  · obtain ⟨ws, rfl, O, ds, hO, hl, r, h⟩ := h
    have eO : tO O (fun _ => []) = O := by
      funext a
      refine propext ⟨fun z => ?_, fun z => .inl z⟩
      rcases z with z | ⟨_, z⟩
      · exact z
      · cases z
    refine ⟨H, O, fun _ => [], _, start_okF (K := ⟨K, w, mg, fun _ => fw⟩) rfl hO r (by omega), ?_⟩
    unfold runF at h
    rw [if_pos hl] at h
    cases q : gb (startF N.length ds) with
    | no => rw [q] at h; exact h
    | bk e => rw [q] at h; exact h.elim
    | ct e => rw [q] at h; exact h.elim
    | rt c =>
      rw [q] at h
      have h : match okP c with | .no => False | .ok c => ∀ v H' os, Same H H' → (∀ a ∈ os, H a = none) → os.Nodup → CellR (kw0 K w mg) H' (fun a => O a ∨ a ∈ os) os c v → Q v H' | .ex k fs => ∀ H' cls d, Same H H' → ExcR K mg (hide H' O) cls d k fs → E cls d H' := h
      cases q2 : okP c with
      | no => rw [q2] at h; exact h.elim
      | ex k fs => exact absurd q2 (by unfold okP; split <;> (intro z; cases z))
      | ok c' =>
        rw [q2] at h
        obtain ⟨e, p⟩ := okP_ok q2
        subst e
        exact fun v H' os s fr nd r => h v H' os s fr nd (CellR_to p r)
    | re c e =>
      rw [q] at h
      have h : match okP c with | .no => False | .ok c => ∀ v H' os, Same H H' → (∀ a ∈ os, H a = none) → os.Nodup → CellR (kw0 K w mg) H' (fun a => O a ∨ a ∈ os) os c v → Q v H' | .ex k fs => ∀ H' cls d, Same H H' → ExcR K mg (hide H' O) cls d k fs → E cls d H' := h
      cases q2 : okP c with
      | no => rw [q2] at h; exact h.elim
      | ex k fs => exact absurd q2 (by unfold okP; split <;> (intro z; cases z))
      | ok c' =>
        rw [q2] at h
        obtain ⟨e', p⟩ := okP_ok q2
        subst e'
        exact fun v σ' H' own' n os hn so nd E' r => h v H' os E'.same (fun a ha => E'.fresh n a (so a ha)) nd (CellR_to p (CellR_mono (Same.refl H') (fun a o _ z => by
            rcases z with z | z
            · exact .inl z
            · exact .inr ⟨n, so a z⟩) r))
    | nx e =>
      rw [q] at h
      exact fun σ' H' own' E' s => h .non H' [] E'.same (fun a ha => by cases ha) List.nodup_nil ⟨rfl, .non⟩
    | ex k fs e =>
      rw [q] at h
      intro σ' H' own' cls d E' s w
      refine h H' cls d E'.same (ExcR_mono (hide_same (Same.refl H') fun a o _ z => .inl z) w)
section
variable {X : Cx} {la : Nat → Addr} {W : WX} {a b e : Expr} {es : List Expr} {fa fb : Env → R Cell} {ga : Env → R (List D)} {pos p gp : Pos} {k n : Nat} {f fw : Addr} {fd : FuncData} {ps : List Str} {m : List D → R Cell} {x y : Str}
/-- the def in slot i is called -/
def fnAt (i : Nat) (en : Env) (r : R Cell) : R Cell := match en[i]? with
  | some (.fn 0) => r
  | _ => .no
theorem de_callV (i : Nat) (F : FnOk X.prog X.w (X.kw la) X.mg X.base (L2.CX X.prog X.w) k f fd ps (spD X.K X.w X.mg n m)) (hla : la 0 = f) (hr : Room k X.A) (tk : Takes X W) (hk : PySem.W.keepIn X.K (.ref f) = true) (hb : Binds X.K fd ps []) (ha : PA X (e :: es) (taD (X.kw la) X.mg W ga))
    (hn : ∀ ds, ds.length ≠ n → m ds = .no) (hp : ∀ ds c, m ds = .ok c → c.plain = true) (hN : X.N[i]? = some x := by rfl) (hv : Vis X.env.scope x := by exact .inl rfl)
    (hdb : (x == ("__debug__" : Str)) = false := by decide) (hcd : (x == ("__classdict__" : Str)) = false := by decide) (he : starEach (e :: es) X.env = (false, eval e X.env) :: starEach es X.env := by rfl) (hpl : (backTo pos (starEach es X.env)).any (·.1) = false := by rfl) :
    PE X (.Call (.Name x p) (e :: es) [] pos) (teD (X.kw la) X.mg W fun en => fnAt i en ((ga en).bind fun ds => (m ds).quiet)) := PE.imp (pe_callL (i := i) (dvs := []) F hr hN hv hk hb .nil passL ha hdb hcd he hpl) fun σ H Q ⟨H0, O0, own, env, E, h⟩ => by
  have h : Hand (X.kw la) X.mg W (tO O0 own) H σ (fnAt i env ((ga env).bind fun ds => (m ds).quiet)) Q := h
  unfold fnAt at h
  split at h
  · rename_i q0
    obtain ⟨v, e1, r⟩ := E.get q0 (fun z => by cases z)
    unfold CellR at r
    obtain ⟨rfl, _⟩ := r
    have e1 : σ[i]? = some (some (.ref f)) := by rw [e1]; show _ = some (some (V.ref f)); rw [← hla]
    refine ⟨e1, H0, O0, own, env, E, ?_⟩
    cases q : ga env with
    | no => simp only [q, R.bind_no] at h; exact h
    | ex k fs => simp only [q, R.bind_ex] at h; exact h
    | ok ds =>
      simp only [q, R.bind_ok] at h
      intro vs H1 s1 r1
      by_cases hl : ds.length = n
      · refine ⟨tO O0 own, ds, (E.mono s1).thereO, hl, by rw [List.append_nil]; exact r1, ?_⟩
        cases q2 : m ds with
        | no => rw [q2] at h; exact h
        | ok c =>
          rw [q2] at h
          exact fun v H' os s f nd r => h v H' os (s1.trans s) (fun a ha => s1.free (f a ha)) nd (CellR_at (hp ds c q2) r)
        | ex k fs => rw [q2] at h; exact h.elim
      · rw [hn ds hl] at h
        exact h.elim
  · exact h.elim
/-- f(a, b, g), g a def of the module -/
theorem de_callG (F : FnOk X.prog X.w (X.kw la) X.mg X.base (L2.CX X.prog X.w) k f fd ps (spF X.K X.w X.mg 2 fw m)) (hr : Room k X.A) (tk : Takes X W) (hm : X.mg x = some (.ref f)) (hk : PySem.W.keepIn X.K (.ref f) = true) (hb : Binds X.K fd ps []) (hw : X.mg y = some (.ref fw))
    (ha : PE X a (teD (X.kw la) X.mg W fa)) (hbb : PE X b (teD (X.kw la) X.mg W fb)) (hn : ∀ ds, ds.length ≠ 2 → m ds = .no) (hp : ∀ ds c, m ds = .ok c → c.plain = true) (hg : Gl X x := by rfl) (hgw : Gl X y := by rfl)
    (hdb : (x == ("__debug__" : Str)) = false := by decide) (hdw : (y == ("__debug__" : Str)) = false := by decide)
    (he : starEach [a, b, .Name y gp] X.env = (false, eval a X.env) :: starEach [b, .Name y gp] X.env := by rfl) (he2 : starEach [b, .Name y gp] X.env = (false, eval b X.env) :: starEach [.Name y gp] X.env := by rfl) (hpl : (backTo pos (starEach [b, .Name y gp] X.env)).any (·.1) = false := by rfl) :
    PE X (.Call (.Name x p) [a, b, .Name y gp] [] pos) (teD (X.kw la) X.mg W fun en => (consR (fa en) (consR (fb en) (R.ok []))).bind m) :=
  PE.imp (pe_callS F hr hg hm hk hb (fun σ => passAt tk σ) (pa_cons ha (pa_cons hbb (pa_cons (pe_glob (v := .ref fw) hgw hw rfl hdw) pa_nil (by rfl)) he2) he) hdb he hpl) fun σ H Q ⟨H0, O0, own, env, E, h⟩ => by
  refine ⟨H0, O0, own, env, E, ?_⟩
  unfold consR at h
  cases q : fa env with
  | no => simp only [q, R.bind_no] at h; exact h
  | ex k fs => simp only [q, R.bind_ex] at h; exact h
  | ok ca =>
    simp only [q, R.bind_ok] at h
    intro v H1 os1 s1 fr1 nd1 r1
    cases q2 : asD ca with
    | no => simp only [q2, R.bind_no] at h; exact h.elim
    | ex k fs => exact (asD_ex q2).elim
    | ok xd =>
      simp only [q2, R.bind_ok] at h
      have dx := dat_at E fr1 r1 q2
      refine ⟨H0, O0, own, env, E.mono s1, ?_⟩
      cases q3 : fb env with
      | no => simp only [q3, R.bind_no] at h; exact h
      | ex k fs => simp only [q3, R.bind_ex] at h; exact fun H' cls d s' w => h H' cls d (s1.trans s') w
      | ok cb =>
        simp only [q3, R.bind_ok] at h
        intro u H2 os2 s2 fr2 nd2 r2
        cases q4 : asD cb with
        | no => simp only [q4, R.bind_no] at h; exact h.elim
        | ex k fs => exact (asD_ex q4).elim
        | ok yd =>
          simp only [q4, R.bind_ok] at h
          have dy := dat_at (E.mono s1) fr2 r2 q4
          have dx' := Dp_mono (hide_same s2 fun _ _ _ z => z) _ _ dx
          have ss := s1.trans s2
          refine ⟨[v, u], rfl, tO O0 own, [xd, yd], (E.mono ss).thereO, rfl, .cons dx' (.cons dy .nil), ?_⟩
          cases q5 : m [xd, yd] with
          | no => rw [q5] at h; exact h
          | ok c =>
            rw [q5] at h
            exact fun v H' os s f nd r => h v H' os (ss.trans s) (fun a ha => ss.free (f a ha)) nd (CellR_at (hp _ c q5) r)
          | ex k fs =>
            rw [q5] at h
            exact fun H' cls d s w => h H' cls d (ss.trans s) w
end
end DL
namespace DL
open PySem PySem.Spec PyProof.Rows L2
/-! ### sorted([a, b]) of two texts -/
def sort2 (a b : Str) : Option (List Str) :=
  if sortedS [a, b] = true then (if sortedS [b, a] = true then (if a = b then some [a, b] else none) else some [a, b])
  else (if sortedS [b, a] = true then some [b, a] else none)
theorem sort2_ok {a b : Str} {zs ys : List Str} (h : sort2 a b = some zs) (p : ys.Perm [a, b]) (s : sortedS ys = true) : ys = zs := by
  have two : ys = [a, b] ∨ ys = [b, a] := by
    have hl := p.length_eq
    match ys, hl with
    | [x, y], _ =>
      have hx : x = a ∨ x = b := by
        have := p.mem_iff.mp (List.mem_cons_self (a := x) (l := [y]))
        simpa using this
      rcases hx with rfl | rfl
      · have := List.perm_singleton.mp p.cons_inv
        exact .inl (by rw [this])
      · have q : [x, y].Perm [x, a] := p.trans (List.Perm.swap _ _ _)
        have := List.perm_singleton.mp q.cons_inv
        exact .inr (by rw [this])
  unfold sort2 at h
  split at h
  · rename_i h1
    split at h
    · rename_i h2
      split at h
      · rename_i e
        cases h
        subst e
        rcases two with t | t <;> exact t
      · cases h
    · rename_i h2
      cases h
      rcases two with rfl | rfl
      · rfl
      · exact absurd s h2
  · rename_i h1
    split at h
    · cases h
      rcases two with rfl | rfl
      · exact absurd s h1
      · rfl
    · cases h
def sorted2D (x : Cell) : R Cell := match x with
  | .own [.str a, .str b] => match sort2 a b with
    | some ys => .ok (.own (ys.map PyData.str))
    | none => .no
  | _ => .no
section
variable {X : Cx} {la : Nat → Addr} {W : WX} {a : Expr} {fa : Env → R Cell} {pos p : Pos}
theorem op1_sorted2 {K : KW} : Op1 K (fun x H Q => ∃ (a : Addr) (xs : List Str), [x] = [V.ref a] ∧ SqL K H a (xs.map V.str) ∧ xs.length < 64 ∧
    ∀ (ys : List Str) (p : Addr), ys.Perm xs → sortedS ys = true → H p = none → Q (.ref p) (L2.upd H p (.lst (ys.map V.str)))) sorted2D := fun mg W O H σ c v Q hO h1 h => by
  unfold sorted2D at h
  split at h
  · rename_i s t
    split at h
    · rename_i zs ez
      obtain ⟨a, vs, rfl, q, r⟩ := Peek_own h1
      have ev := strsD_rel (ys := [s, t]) r rfl
      refine ⟨a, [s, t], rfl, by rw [← ev]; exact SqL.of q, by show 2 < 64; omega, fun ys p pm ss hp => ?_⟩
      rw [sort2_ok ez pm ss]
      exact h.newL (strs_dp _) p hp
    · exact h.elim
  · exact h.elim
theorem de_sorted2 (hm : X.mg "sorted" = none) (ha : PE X a (tpD (X.kw la) X.mg W fa)) (hg : Gl X "sorted" := by rfl)
    (he : starEach (a :: []) X.env = (false, eval a X.env) :: starEach [] X.env := by rfl) (hpl : (backTo pos (starEach [] X.env)).any (·.1) = false := by rfl) :
    PE X (.Call (.Name "sorted" p) [a] [] pos) (teD (X.kw la) X.mg W fun en => (fa en).bind sorted2D) := de_b1 cr_sortedS hm (by decide +kernel) op1_sorted2 ha hg (by decide) (by decide) he hpl
end
end DL
/-! ## DL, part 27: repr(x), x a tuple of data, where no repr is under way -/
namespace DL
open PySem PySem.Spec PyProof.Rows L2
def reprOk (d : D) : Bool := d.showable && !d.hasDict && decide (d.depth ≤ 50) && decide (d.shown.length ≤ 16777216)
def reprD (c : Cell) : R Cell := match c with
  | .d (.tuple xs) => if reprOk (.tuple xs) = true then .ok (.d (.str (PyData.shown (.tuple xs)))) else .no
  | _ => .no
section
variable {X : Cx} {la : Nat → Addr} {W : WX} {a : Expr} {fa : Env → R Cell} {pos p : Pos}
theorem call_repr_data (hG : X.A.guards = some []) (hu : X.A.units + 65 < cLine) : CallR X (.builtin "repr") (fun xs H Q => ∃ al ds, xs = [.ref al] ∧ Dp X.K H (.ref al) (.tuple ds) ∧ reprOk (.tuple ds) = true ∧ Q (.str (PyData.shown (.tuple ds))) H) := by
  intro pins s σ H xs us Q I r h
  obtain ⟨al, ds, rfl, hd, ok, q⟩ := h
  obtain ⟨u, rfl, rx⟩ := vals1 r
  cases rx
  obtain ⟨as, rd⟩ := Dp.reads I (.tuple ds) (.ref al) (.ref al) hd rfl
  unfold reprOk at ok
  simp only [Bool.and_eq_true, Bool.not_eq_true', decide_eq_true_eq] at ok
  obtain ⟨⟨⟨o1, o2⟩, o3⟩, o4⟩ := ok
  refine repr_of_reads' rd o1 (fun z => by rw [o2] at z; cases z) hG (by omega) (fun b o e => e) (fun h' u tk k => ⟨.str _, H, I.kept k, ⟨_, rfl⟩, q⟩) (by rw [sizeLine_eq]; exact o4)
theorem op1_repr {K : KW} : Op1 K (fun x H Q => ∃ al ds, [x] = [V.ref al] ∧ Dp K H (.ref al) (.tuple ds) ∧ reprOk (.tuple ds) = true ∧ Q (.str (PyData.shown (.tuple ds))) H) reprD := fun mg W O H σ c v Q hO h1 h => by
  unfold reprD at h
  split at h
  · rename_i xs
    split at h
    · rename_i ok
      obtain ⟨al, vs, rfl, s, q⟩ := Dp_tup (Peek_d h1)
      exact ⟨al, xs, rfl, Dp_mono hide_sub _ _ (Peek_d h1), ok, h.dat (.str _)⟩
    · exact h.elim
  · exact h.elim
theorem de_repr (hG : X.A.guards = some []) (hu : X.A.units + 65 < cLine) (hm : X.mg "repr" = none) (ha : PE X a (tpD (X.kw la) X.mg W fa)) (hg : Gl X "repr" := by rfl)
    (he : starEach (a :: []) X.env = (false, eval a X.env) :: starEach [] X.env := by rfl) (hpl : (backTo pos (starEach [] X.env)).any (·.1) = false := by rfl) :
    PE X (.Call (.Name "repr" p) [a] [] pos) (teD (X.kw la) X.mg W fun en => (fa en).bind reprD) := de_b1 (call_repr_data hG hu) hm (by decide +kernel) op1_repr ha hg (by decide) (by decide) he hpl
end
end DL
/-! ## DL, part 28: the law's own call, at the caller of all (there no repr is under way) -/
namespace DL
open PySem PySem.Spec PyProof.Rows L2
/-- what the call of a def of one parameter says at the caller of all -/
def TopRun (P : Program) (w : World) (K : PySem.W.Frag) (mg : Str → Option Value) (base : Heap) (f : Addr) (fd : FuncData) (m : List D → R Cell) : Prop :=
  ∀ (s : Shared) (H : Hp) (u : Value) (v : V) (Q : VK) (E : XK), Env0 P w K mg base callerA [] s H → BindsTo s fd ⟨[u], []⟩ [("script", u)] → RelV v u → spD K w mg 1 m [v] H Q E →
    codeAny (model P w) callerA (.call (.ref f) ⟨[u], []⟩) (CR (L2.CX P w) [] P w H s Q E) s
end DL
namespace DL
open PySem PySem.Spec PyProof.Rows L2
/-- the def's own run there, by its body -/
theorem top_run {P : Program} {w : World} {mg : Str → Option Value} {base : Heap} {K : PySem.W.Frag} {x qual : Str} {fst : Stmt} {f : Addr} {fd : FuncData} {N : List Str} {k : Nat} {gb : Env → Out} (F : Fun K x qual fst f fd) (S : FnScope N ["script"] (defScope fst))
    (hr : Room (k + 1) callerA) (hb : ∀ (cdv : Value) (s : Shared) (H : Hp) (E : XK), Room k (callerA.deeper (envOfC qual (defScope fst) s.heap.objs.size f cdv)) →
      PSs (cxOf (L2.CX P w) P w K mg base N qual (defScope fst) f cdv callerA [] s H E) (defBody fst) (tsD (kw0 K w mg) mg (fun cls d _ H => E cls d H) gb)) :
    TopRun P w K mg base f fd (runD N.length 1 gb) := by
  intro s H u v Q E e0 bd rv h
  obtain ⟨oc, od, kV, doc, pm, an, cdv, ct, osl, rfl, lk, hcd⟩ := F.ex
  have vs1 : Vals [v] [u] := .cons rv .nil
  -- the module's objects stand in the heap
  have hK : K.In s.heap := e0.mod.kin.keeps fun b o q => (e0.bs b o q).1
  have hL : s.heap.NoLimit := e0.mod.nolimit.keeps fun b o q => (e0.bs b o q).1
  refine codeAny_call_function hr.depth (hK _ _ lk) rfl S.co S.gen rfl (PySem.W.codeRec_of hK hcd) (bd _ _ _ _ ?_)
  have kinds : ∀ y ∈ [(("script" : Str), u)], (defScope fst).names.lookup y.1 = some .local ∨ ((defScope fst).names.lookup y.1 = some .cell ∧ ((cellsFrom (s.heap.objs.size + 1) (defScope fst).names []).lookup y.1).isSome = true) := by
    intro y hy
    have e : y.1 = "script" := by
      rw [List.mem_singleton] at hy
      rw [hy]
    rcases S.par y.1 (e ▸ List.mem_singleton.mpr rfl) with q | q
    · exact Or.inl q
    · exact Or.inr ⟨q, PySem.W.cellsFrom_some _ _ _ (Or.inl q)⟩
  refine wpAny_newFunctionEnv_cells S.kind kinds ?_
  rintro env rfl s1 ic
  refine ⟨hL.keeps ic.toInCall.keep, codeAny_func ?_⟩
  have body := hb cdv s H E (hr.deeper _)
  have I0 : Inv (cxOf (L2.CX P w) P w K mg base N qual (defScope fst) f cdv callerA [] s H E) [] (start N [v]) H s1 := inv_start S hr.hd e0 rfl vs1 ic
  have fin : tsD (kw0 K w mg) mg (fun cls d _ H => E cls d H) gb { nx := fun _ H' => Q .non H', rt := Q } (start N [v]) H := by
    obtain ⟨O, ds, hO, hl, r, h⟩ := h
    have eO : tO O (fun _ => []) = O := by
      funext a
      refine propext ⟨fun z => ?_, fun z => .inl z⟩
      rcases z with z | ⟨_, z⟩
      · exact z
      · cases z
    refine ⟨H, O, fun _ => [], _, start_ok hO r, ?_⟩
    unfold runD at h
    rw [if_pos hl] at h
    cases q : gb (startD N.length ds) with
    | no => rw [q] at h; exact h
    | bk e => rw [q] at h; exact h.elim
    | ct e => rw [q] at h; exact h.elim
    | rt c =>
      rw [q] at h
      have h : match okP c with | .no => False | .ok c => ∀ v H' os, Same H H' → (∀ a ∈ os, H a = none) → os.Nodup → CellR (kw0 K w mg) H' (fun a => O a ∨ a ∈ os) os c v → Q v H' | .ex k fs => ∀ H' cls d, Same H H' → ExcR K mg (hide H' O) cls d k fs → E cls d H' := h
      unfold okP at h
      split at h
      · exact h.elim
      · rename_i c' z
        split at z
        · cases z
          exact fun v H' os s fr nd r => h v H' os s fr nd r
        · cases z
      · rename_i z
        split at z <;> cases z
    | re c e =>
      rw [q] at h
      have h : match okP c with | .no => False | .ok c => ∀ v H' os, Same H H' → (∀ a ∈ os, H a = none) → os.Nodup → CellR (kw0 K w mg) H' (fun a => O a ∨ a ∈ os) os c v → Q v H' | .ex k fs => ∀ H' cls d, Same H H' → ExcR K mg (hide H' O) cls d k fs → E cls d H' := h
      unfold okP at h
      split at h
      · exact h.elim
      · rename_i c' z
        split at z
        · cases z
          exact fun v σ' H' own' n os hn so nd E' r => h v H' os E'.same (fun a ha => E'.fresh n a (so a ha)) nd (CellR_mono (Same.refl H') (fun a o _ z => by
            rcases z with z | z
            · exact .inl z
            · exact .inr ⟨n, so a z⟩) r)
        · cases z
      · rename_i z
        split at z <;> cases z
    | nx e =>
      rw [q] at h
      exact fun σ' H' own' E' s => h .non H' [] E'.same (fun a ha => by cases ha) List.nodup_nil ⟨rfl, .non⟩
    | ex k fs e =>
      rw [q] at h
      intro σ' H' own' cls d E' s w
      refine h H' cls d E'.same (ExcR_mono (hide_same (Same.refl H') fun a o _ z => .inl z) w)
  refine wpAny_mono (body.run [] s1 (start N [v]) H _ I0 fin) (fun fl s' q => ?_) fun _ _ q => q
  cases fl with
  | next =>
    obtain ⟨σ', H', J, q⟩ := q
    exact ⟨V.non, H', J.os, J.bare, J.base, J.hok, rfl, q⟩
  | ret z =>
    obtain ⟨y, σ', H', J, ry, q⟩ := q
    exact ⟨y, H', J.os, J.bare, J.base, J.hok, ry, q⟩
  | brk => exact q.elim fun _ z => z.elim fun _ z => z.2.elim
  | cont => exact q.elim fun _ z => z.elim fun _ z => z.2.elim
end DL
namespace DL
open PySem PySem.Spec PyProof.Rows L2
/-- the law's own call behind the top, where the abstract heap may track the script alone -/
theorem top_core {P : Program} {w : World} {K : PySem.W.Frag} {mg mb : Str → Option Value} {fa a : Addr} {fd : FuncData} {m : List D → R Cell} {s₁ : Shared} {o : Obj} {its : Array Value} {ns : List Int} {H : Hp}
    (KX : K.In s₁.heap) (hns : s₁.heap.Ns mainGlobals mg) (hb : s₁.heap.Ns builtinsNs mb) (hbb : ∀ x : Str, x ≠ "__name__" → mb x = bootBuiltins x) (hlim : s₁.heap.NoLimit) (hg : s₁.gens = #[])
    (ha : s₁.heap.get? a = some o) (od : o.data = .seq its) (F : ∀ base : Heap, K.In base → base.Ns mainGlobals mg → TopRun P w K mg base fa fd m)
    (bind : ∀ (s : Shared) (u : Value), BindsTo s fd ⟨[u], []⟩ [("script", u)]) (true1 : m [.list (ns.map PyData.int)] = .ok (.d (.bool true)))
    (hS : SqL K H a (ns.map V.int)) (ok : HOk P w H s₁.heap) (one : ∀ b u, H b = some u → b = a ∧ K.lookup a = none ∧ ∃ xs, u = .frz o (.lst xs)) :
    codeAny (model P w) callerA (.call (.ref fa) ⟨[.ref a], []⟩)
      (fun r s' => r = .ok (.ret (.bool true)) ∧ OldK s₁.heap s'.heap ∧ s'.os = s₁.os ∧ AllBare s'.gens) s₁ := by
  have free : ∀ b : Addr, b ≠ a → H b = none := fun b hb => by
    cases q : H b with
    | none => rfl
    | some u => exact (hb (one b u q).1).elim
  have isF : ∀ {b : Addr} {o' : Obj}, K.lookup b = some o' → H b = none := fun {b o'} e => by
    cases q : H b with
    | none => rfl
    | some u =>
      obtain ⟨rfl, n, _⟩ := one b u q
      rw [e] at n
      cases n
  have nsT : ∀ {b : Addr} {g : Str → Option Value}, s₁.heap.Ns b g → (hidT s₁.heap H).Ns b g := fun {b g} ⟨o', es, ep, e, d, r⟩ => by
    refine ⟨o', es, ep, hidT_get e (free b ?_), d, r⟩
    rintro rfl
    rw [ha] at e
    cases e
    have := od.symm.trans d
    cases this
  have kb : K.In (hidT s₁.heap H) := fun b o' e => hidT_get (KX b o' e) (isF e)
  obtain ⟨mc, l1, l2⟩ := hlim
  have md : Mod K mg (hidT s₁.heap H) := { kin := kb, glob := nsT hns, blt := ⟨mb, nsT hb, hbb⟩, nolimit := ⟨mc, nsT l1, l2⟩ }
  have e0 : Env0 P w K mg (hidT s₁.heap H) callerA [] s₁ H :=
    ⟨rfl, md, fun _ _ e => of_hidT e, Nat.le_of_eq (hidT_size _ _), trivial, (fun _ z => nomatch z), ok, .of_eq hg⟩
  have sp1 : spD K w mg 1 m [.ref a] H (fun v _ => v = .bl true) (fun _ _ _ => False) := by
    refine ⟨fun _ => False, [.list (ns.map .int)], (fun _ z => z.elim), rfl, .cons (.lst (SqL_mono (hide_no fun _ z => z) hS) (ints_dp ns)) .nil, ?_⟩
    rw [true1]
    exact fun v H' os _ _ _ r => Dp_bool r.2
  refine codeAny_mono (F _ kb (nsT hns) s₁ H (.ref a) (.ref a) _ _ e0 (bind s₁ (.ref a)) rfl sp1) fun r s' h => ?_
  match r, h with
  | .error e, h => exact (cx_never h).elim
  | .ok .next, h => exact h.elim
  | .ok .brk, h => exact h.elim
  | .ok .cont, h => exact h.elim
  | .ok (.ret u), ⟨v, H', hos, hbare, hun, hok, hrel, hv⟩ =>
    have hv : v = .bl true := hv
    subst hv
    have hu : u = .bool true := hrel
    subst hu
    refine ⟨rfl, OldK.of_keep fun b o' e => ?_, hos, hbare⟩
    cases q : H b with
    | none => exact hun.keep b o' e q (fun z => nomatch z) (by simp)
    | some y =>
      obtain ⟨_, _, xs, rfl⟩ := one b y q
      have i1 := (ok b _ q).1
      have i2 := (hok b _ (hun.frzs b o _ q)).1
      rw [e] at i1
      cases i1
      exact i2
/-- THE HEAD for a law whose own run is known at the caller of all alone -/
theorem top_call {P : Program} {w : World} {K : PySem.W.Frag} {mg mb : Str → Option Value} {fa a : Addr} {fd : FuncData} {m : List D → R Cell} {s₁ : Shared} {vs : List Value} {ns : List Int}
    (KX : K.In s₁.heap) (hns : s₁.heap.Ns mainGlobals mg) (hb : s₁.heap.Ns builtinsNs mb) (hbb : ∀ x : Str, x ≠ "__name__" → mb x = bootBuiltins x) (hlim : s₁.heap.NoLimit) (hg : s₁.gens = #[])
    (ha : s₁.heap.get? a = some { cls := .type "list", data := .seq vs.toArray }) (hi : IntsAre vs ns) (hl : ns.length ≤ sizeLine)
    (F : ∀ base : Heap, K.In base → base.Ns mainGlobals mg → TopRun P w K mg base fa fd m)
    (bind : ∀ (s : Shared) (u : Value), BindsTo s fd ⟨[u], []⟩ [("script", u)]) (true1 : m [.list (ns.map PyData.int)] = .ok (.d (.bool true))) :
    codeAny (model P w) callerA (.call (.ref fa) ⟨[.ref a], []⟩)
      (fun r s' => r = .ok (.ret (.bool true)) ∧ OldK s₁.heap s'.heap ∧ s'.os = s₁.os ∧ AllBare s'.gens) s₁ := by
  cases hk : K.lookup a with
  | some o =>
    have q := KX a o hk
    rw [ha] at q
    cases q
    refine top_core (H := fun _ => none) KX hns hb hbb hlim hg ha rfl F bind true1 (.inr ⟨_, vs.toArray, _, hk, rfl, rfl, rfl, ?_, ?_⟩) (fun _ _ z => nomatch z) (fun _ _ z => nomatch z)
    · rw [List.size_toArray, hi.length]; exact hl
    · simpa using vals_ints hi
  | none =>
    let Hs : Hp := fun b => if b = a then some (.frz { cls := .type "list", data := .seq vs.toArray } (.lst (ns.map V.int))) else none
    have hs : ∀ b u, Hs b = some u → b = a ∧ u = .frz { cls := .type "list", data := .seq vs.toArray } (.lst (ns.map V.int)) := fun b u z => by
      by_cases e : b = a
      · have z' : some _ = some u := (if_pos e).symm.trans z
        exact ⟨e, (Option.some.inj z').symm⟩
      · have z' : none = some u := (if_neg e).symm.trans z
        cases z'
    refine top_core (H := Hs) KX hns hb hbb hlim hg ha rfl F bind true1 (.inl (.inr ⟨_, if_pos rfl⟩)) (fun b u z => ?_) fun b u z => ⟨(hs b u z).1, hk, _, (hs b u z).2⟩
    obtain ⟨rfl, rfl⟩ := hs b u z
    exact ⟨ha, by rw [List.length_map]; exact hl, vs, _, vals_ints hi, ha⟩
/-- the goal that the head leaves -/
theorem walk_top {l : PySem.W.OpenLaw} {n : Nat} {q : Program} {loose : List Str} {XP : (Str → Option Value) → Heap → Prop} {YP : World → Heap → Prop} {d : DefRec} {K : Params → PySem.W.Frag} {m : List D → R Cell}
    (hn : l.most = some n) (hn2 : n ≤ 63) (hdf : d.params.defaults = [])
    (hY : ∀ (w : World) (h : Heap), YP w h → (K w.params).In h)
    (F : ∀ (w : World) (mg : Str → Option Value) (fa : Addr) (h : Heap), (K w.params).In h → h.Ns mainGlobals mg → mg d.name = some (.ref fa) →
      ∃ fd : FuncData, (∀ (s : Shared) (u : Value), BindsTo s fd ⟨[u], []⟩ [("script", u)]) ∧
        ∀ base : Heap, (K w.params).In base → base.Ns mainGlobals mg → TopRun l.prog w (K w.params) mg base fa fd m)
    (T : ∀ ns : List Int, ns.length ≤ 63 → m [.list (ns.map PyData.int)] = .ok (.d (.bool true))) :
    PySem.W.WalkO q loose XP YP l.row.toRowW d [] (fun f vs => PySem.call f vs) := by
  refine Att.attach_call hn hdf ?_
  intro w s₀ s₁ mg mb fa o pm cd doc a vs ns G Y _ _ _ hmg hobj hints hlen hg
  have KX := hY w _ Y
  obtain ⟨fd, bd, run⟩ := F w mg fa _ KX G.T.g hmg
  have l63 : ns.length ≤ 63 := Nat.le_trans hlen hn2
  exact top_call KX G.T.g G.T.b G.T.builtins G.T.nolimit hg hobj hints (Nat.le_trans l63 (by decide)) run bd (T ns l63)
end DL
namespace K89
open PySem (Addr)
open DL L2
noncomputable section
def l0_reached_nodes : DL.Env → Out :=
  fun en => ((((getC 4 en).bind fun x => (getC 2 en).bind fun y => notInDD x y).bind asB).into en fun b => if b = true then ((((cstD (.bool true) en).bind asD).into en fun yd => dicAt 2 en fun kvs => ((varD 4 en).bind asD).into en fun xd => match putDD kvs xd yd with | some kvs2 => .nx (putBack 2 (.dic kvs2) en) | none => .no).andThen fun en => (ownAt 1 en fun xs => ((varD 4 en).bind asD).into en fun d => if xs.length < 16777216 then .nx (en.set 1 (.own (xs ++ [d]))) else .no)) else (Out.nx en))
def l1_reached_nodes : DL.Env → R Bool :=
  fun en => (((getC 3 en).bind fun x => ((getC 1 en).bind lenD).bind fun y => intB (fun i j => decide (i < j)) x y).bind asB)
def l2_reached_nodes : DL.Env → Out :=
  fun en => (((((((getC 0 en).bind fun x => (cstD (.int 3) en).bind fun y => idxD x y).bind fun x => ((getC 1 en).bind fun x => (getC 3 en).bind fun y => idxD x y).bind fun y => idxD x y).bind Cell.val).bind itemsA).into en fun xs => forD (turnD (.nm 4) l0_reached_nodes) xs en).andThen fun en => (((getC 3 en).bind cellI).into en fun k => ((cstD (.int 1) en).bind cellI).into en fun z => .nx (en.set 3 (.d (.int (k + z))))))
def g_reached_nodes : DL.Env → Out := fun en =>
  (((lstR (consR (((getC 0 en).bind fun x => (cstD (.int 1) en).bind fun y => idxD x y).bind Cell.val) (R.ok []))).into en (setR 1 en)).andThen fun en => ((((((getC 0 en).bind fun x => (cstD (.int 1) en).bind fun y => idxD x y).bind Cell.val).quiet.bind fun x => (cstD (.bool true) en).quiet.bind fun y => d1D x y).into en (setR 2 en)).andThen fun en => (((cstD (.int 0) en).into en (setR 3 en)).andThen fun en => ((whileD l1_reached_nodes l2_reached_nodes 1000000 en).andThen fun en => ((getC 1 en).into en .rt)))))
def m_reached_nodes : List D → R Cell := runD 5 1 g_reached_nodes
def l0_grouped : DL.Env → Out :=
  fun en => (((((getC 3 en).bind fun x => (getC 1 en).bind fun y => notInDD x y).bind asB).into en fun b => if b = true then ((((getC 1 en).bind lenDD).bind asD).into en fun yd => dicAt 1 en fun kvs => ((varD 3 en).bind asD).into en fun xd => match putDD kvs xd yd with | some kvs2 => .nx (putBack 1 (.dic kvs2) en) | none => .no) else (Out.nx en)).andThen fun en => (ownAt 2 en fun xs => (((getC 1 en).bind fun x => (getC 3 en).bind fun y => ixDD x y).bind asD).into en fun d => if xs.length < 16777216 then .nx (en.set 2 (.own (xs ++ [d]))) else .no))
def g_grouped : DL.Env → Out := fun en =>
  (((R.ok (Cell.dic [])).into en (setR 1 en)).andThen fun en => (((lstR (R.ok [])).into en (setR 2 en)).andThen fun en => ((((varD 0 en).bind itemsA).into en fun xs => forD (turnD (.nm 3) l0_grouped) xs en).andThen fun en => ((getC 2 en).into en .rt))))
def m_grouped : List D → R Cell := runD 4 1 g_grouped
def l0_classes_of : DL.Env → Out :=
  fun en => (ownAt 3 en fun xs => ((tupR (consR (((getC 2 en).bind fun x => (getC 4 en).bind fun y => idxD x y).bind Cell.val) (consR (((((getC 1 en).bind fun x => (getC 4 en).bind fun y => idxD x y).bind itemsA).bind fun xs => lcL (lcD ([6] : List Nat) (.nm 6) (fun en => (R.ok true)) (fun en => (((getC 2 en).bind fun x => (getC 6 en).bind fun y => idxD x y).bind Cell.val)) xs en)).bind tupleD) (R.ok [])))).bind asD).into en fun d => if xs.length < 16777216 then .nx (en.set 3 (.own (xs ++ [d]))) else .no)
def l1_classes_of : DL.Env → R Bool :=
  fun en => ((cstD (.bool true) en).bind asB)
def l2_classes_of : DL.Env → Out :=
  fun en => (((lstR (R.ok [])).into en (setR 3 en)).andThen fun en => (((((getC 1 en).bind lenD).bind rng1D).into en fun xs => forD (turnD (.nm 4) l0_classes_of) xs en).andThen fun en => (((fun en => (((consR (varD 3 en) (R.ok [])).bind m_grouped).into en (setR 5 en))) (freezeAll [3] en)).andThen fun en => ((((((getC 5 en).bind fun x => (cstD (.int 0) en).bind fun y => maxFD x y).bind fun x => ((getC 2 en).bind fun x => (cstD (.int 0) en).bind fun y => maxFD x y).bind fun y => eqD x y).bind asB).into en fun b => if b = true then ((getC 2 en).into en .rt) else (Out.nx en)).andThen fun en => ((fun en => ((varD 5 en).into en (setR 2 en))) (freezeAll [5] en))))))
def g_classes_of : DL.Env → Out := fun en =>
  ((((consR (varD 0 en) (R.ok [])).bind m_grouped).into en (setR 2 en)).andThen fun en => (whileD l1_classes_of l2_classes_of 1000000 en))
def m_classes_of : List D → R Cell := runD 7 2 g_classes_of
def l0_reduce : DL.Env → Out :=
  fun en => (((varD 3 en).bind asD).into en fun yd => dicAt 2 en fun kvs => ((((getC 1 en).bind fun x => (getC 3 en).bind fun y => idxD x y).bind Cell.val).bind asD).into en fun xd => match putDD kvs xd yd with | some kvs2 => .nx (putBack 2 (.dic kvs2) en) | none => .no)
def l1_reduce : DL.Env → Out :=
  fun en => (((((getC 5 en).bind fun x => (getC 3 en).bind fun y => idxD x y).bind fun x => ((getC 6 en).bind lenD).bind fun y => eqD x y).bind asB).into en fun b => if b = true then (ownAt 6 en fun xs => ((varD 3 en).bind asD).into en fun d => if xs.length < 16777216 then .nx (en.set 6 (.own (xs ++ [d]))) else .no) else (Out.nx en))
def g_reduce : DL.Env → Out := fun en =>
  ((((consR (varD 0 en) (R.ok [])).bind m_reached_nodes).into en (setR 1 en)).andThen fun en => (((R.ok (Cell.dic [])).into en (setR 2 en)).andThen fun en => (((((getC 1 en).bind lenD).bind rng1D).into en fun xs => forD (turnD (.nm 3) l0_reduce) xs en).andThen fun en => (((((getC 1 en).bind itemsA).bind fun xs => lcL (lcD ([9] : List Nat) (.nm 9) (fun en => (R.ok true)) (fun en => ((((((getC 0 en).bind fun x => (cstD (.int 3) en).bind fun y => idxD x y).bind fun x => (getC 9 en).bind fun y => idxD x y).bind itemsA).bind fun xs => lcL (lcD ([10] : List Nat) (.nm 10) (fun en => (R.ok true)) (fun en => ((getC 2 en).bind fun x => (getC 10 en).bind fun y => ixDD x y)) xs en)).bind tupleD)) xs en)).into en (setR 4 en)).andThen fun en => (((fun en => (((consR (((getC 1 en).bind itemsA).bind fun xs => lcL (lcD ([9] : List Nat) (.nm 9) (fun en => (R.ok true)) (fun en => ((((getC 0 en).bind fun x => (cstD (.int 2) en).bind fun y => idxD x y).bind fun x => (getC 9 en).bind fun y => idxD x y).bind Cell.val)) xs en)) (consR (varD 4 en) (R.ok []))).bind m_classes_of).into en (setR 5 en))) (freezeAll [4] en)).andThen fun en => (((lstR (R.ok [])).into en (setR 6 en)).andThen fun en => (((((getC 1 en).bind lenD).bind rng1D).into en fun xs => forD (turnD (.nm 3) l1_reduce) xs en).andThen fun en => ((((((getC 6 en).bind itemsA).bind fun xs => lcL (lcD ([3] : List Nat) (.nm 3) (fun en => (R.ok true)) (fun en => ((((getC 0 en).bind fun x => (cstD (.int 2) en).bind fun y => idxD x y).bind fun x => ((getC 1 en).bind fun x => (getC 3 en).bind fun y => idxD x y).bind fun y => idxD x y).bind Cell.val)) xs en)).bind tupleD).into en (setR 7 en)).andThen fun en => ((((((getC 6 en).bind itemsA).bind fun xs => lcL (lcD ([3] : List Nat) (.nm 3) (fun en => (R.ok true)) (fun en => (((((getC 4 en).bind fun x => (getC 3 en).bind fun y => idxD x y).bind itemsA).bind fun xs => lcL (lcD ([10] : List Nat) (.nm 10) (fun en => (R.ok true)) (fun en => (((getC 5 en).bind fun x => (getC 10 en).bind fun y => idxD x y).bind Cell.val)) xs en)).bind tupleD)) xs en)).bind tupleD).into en (setR 8 en)).andThen fun en => ((tupR (consR (((getC 0 en).bind fun x => (cstD (.int 0) en).bind fun y => idxD x y).bind tupleD) (consR (cstD (.int 0) en) (consR (varD 7 en) (consR (varD 8 en) (R.ok [])))))).into en .rt))))))))))
def m_reduce : List D → R Cell := runD 11 1 g_reduce
def g_turned : DL.Env → Out := fun en =>
  (((((getC 0 en).bind fun x => (cstD (.str (PySem.Str.ofString "sure")) en).bind fun y => eqD x y).bind asB).into en fun b => if b = true then ((cstD (.str (PySem.Str.ofString "never")) en).into en .rt) else (Out.nx en)).andThen fun en => (((((getC 0 en).bind fun x => (cstD (.str (PySem.Str.ofString "never")) en).bind fun y => eqD x y).bind asB).into en fun b => if b = true then ((cstD (.str (PySem.Str.ofString "sure")) en).into en .rt) else (Out.nx en)).andThen fun en => ((getC 0 en).into en .rt)))
def m_turned : List D → R Cell := runD 1 1 g_turned
def g_opposite : DL.Env → Out := fun en =>
  (((consR (tupR (consR (((getC 0 en).bind fun x => (cstD (.int 0) en).bind fun y => idxD x y).bind Cell.val) (consR (((getC 0 en).bind fun x => (cstD (.int 1) en).bind fun y => idxD x y).bind Cell.val) (consR (((((getC 0 en).bind fun x => (cstD (.int 2) en).bind fun y => idxD x y).bind itemsA).bind fun xs => lcL (lcD ([1] : List Nat) (.nm 1) (fun en => (R.ok true)) (fun en => ((consR (varD 1 en) (R.ok [])).bind m_turned)) xs en)).bind tupleD) (consR (((getC 0 en).bind fun x => (cstD (.int 3) en).bind fun y => idxD x y).bind Cell.val) (R.ok [])))))) (R.ok [])).bind m_reduce).into en .rt)
def m_opposite : List D → R Cell := runD 2 1 g_opposite
def g_met_by_both : DL.Env → Out := fun en =>
  (((orR (((getC 0 en).bind fun x => (cstD (.str (PySem.Str.ofString "impossible")) en).bind fun y => eqD x y).bind asB) (((getC 1 en).bind fun x => (cstD (.str (PySem.Str.ofString "impossible")) en).bind fun y => eqD x y).bind asB)).into en fun b => if b = true then ((cstD (.str (PySem.Str.ofString "impossible")) en).into en .rt) else (Out.nx en)).andThen fun en => (((orR (((getC 0 en).bind fun x => (cstD (.str (PySem.Str.ofString "never")) en).bind fun y => eqD x y).bind asB) (((getC 1 en).bind fun x => (cstD (.str (PySem.Str.ofString "never")) en).bind fun y => eqD x y).bind asB)).into en fun b => if b = true then ((cstD (.str (PySem.Str.ofString "never")) en).into en .rt) else (Out.nx en)).andThen fun en => (((andR (((getC 0 en).bind fun x => (cstD (.str (PySem.Str.ofString "sure")) en).bind fun y => eqD x y).bind asB) (((getC 1 en).bind fun x => (cstD (.str (PySem.Str.ofString "sure")) en).bind fun y => eqD x y).bind asB)).into en fun b => if b = true then ((cstD (.str (PySem.Str.ofString "sure")) en).into en .rt) else (Out.nx en)).andThen fun en => ((cstD (.str (PySem.Str.ofString "unknown")) en).into en .rt))))
def m_met_by_both : List D → R Cell := runD 2 2 g_met_by_both
def g_met_by_one : DL.Env → Out := fun en =>
  (((consR ((consR ((consR (varD 0 en) (R.ok [])).bind m_turned) (consR ((consR (varD 1 en) (R.ok [])).bind m_turned) (R.ok []))).bind m_met_by_both) (R.ok [])).bind m_turned).into en .rt)
def m_met_by_one : List D → R Cell := runD 2 2 g_met_by_one
def g_told_by_one : DL.Env → Out := fun en =>
  (((orR (((getC 0 en).bind fun x => (cstD (.str (PySem.Str.ofString "impossible")) en).bind fun y => eqD x y).bind asB) (((getC 1 en).bind fun x => (cstD (.str (PySem.Str.ofString "impossible")) en).bind fun y => eqD x y).bind asB)).into en fun b => if b = true then ((cstD (.str (PySem.Str.ofString "impossible")) en).into en .rt) else (Out.nx en)).andThen fun en => (((((getC 0 en).bind fun x => (cstD (.str (PySem.Str.ofString "unknown")) en).bind fun y => eqD x y).bind asB).into en fun b => if b = true then ((getC 1 en).into en .rt) else (Out.nx en)).andThen fun en => (((orR (((getC 1 en).bind fun x => (cstD (.str (PySem.Str.ofString "unknown")) en).bind fun y => eqD x y).bind asB) (((getC 0 en).bind fun x => (getC 1 en).bind fun y => eqD x y).bind asB)).into en fun b => if b = true then ((getC 0 en).into en .rt) else (Out.nx en)).andThen fun en => ((cstD (.str (PySem.Str.ofString "impossible")) en).into en .rt))))
def m_told_by_one : List D → R Cell := runD 2 2 g_told_by_one
def g_check_lists : DL.Env → Out := fun en =>
  ((((((getC 0 en).bind fun x => (cstD (.int 0) en).bind fun y => idxD x y).bind tupleD).bind fun x => (((getC 1 en).bind fun x => (cstD (.int 0) en).bind fun y => idxD x y).bind tupleD).bind fun y => neD x y).bind asB).into en fun b => if b = true then (Out.ex (PySem.Str.ofString "OtherReadings") [] en) else (Out.nx en))
def m_check_lists : List D → R Cell := runD 2 2 g_check_lists
def l0_pair_nodes : DL.Env → Out :=
  fun en => (((tupR (consR (((((getC 0 en).bind fun x => (cstD (.int 3) en).bind fun y => idxD x y).bind fun x => (getC 7 en).bind fun y => idxD x y).bind fun x => (getC 6 en).bind fun y => idxD x y).bind Cell.val) (consR (((((getC 1 en).bind fun x => (cstD (.int 3) en).bind fun y => idxD x y).bind fun x => (getC 8 en).bind fun y => idxD x y).bind fun x => (getC 6 en).bind fun y => idxD x y).bind Cell.val) (R.ok [])))).into en (setR 9 en)).andThen fun en => (((((getC 9 en).bind fun x => (getC 3 en).bind fun y => notInDD x y).bind asB).into en fun b => if b = true then (((((getC 2 en).bind lenD).bind asD).into en fun yd => dicAt 3 en fun kvs => ((varD 9 en).bind asD).into en fun xd => match putDD kvs xd yd with | some kvs2 => .nx (putBack 3 (.dic kvs2) en) | none => .no).andThen fun en => (ownAt 2 en fun xs => ((varD 9 en).bind asD).into en fun d => if xs.length < 16777216 then .nx (en.set 2 (.own (xs ++ [d]))) else .no)) else (Out.nx en)).andThen fun en => (ownAt 5 en fun xs => (((getC 3 en).bind fun x => (getC 9 en).bind fun y => ixDD x y).bind asD).into en fun d => if xs.length < 16777216 then .nx (en.set 5 (.own (xs ++ [d]))) else .no)))
def l1_pair_nodes : DL.Env → R Bool :=
  fun en => ((((getC 4 en).bind lenD).bind fun x => ((getC 2 en).bind lenD).bind fun y => intB (fun i j => decide (i < j)) x y).bind asB)
def l2_pair_nodes : DL.Env → Out :=
  fun en => (((((getC 2 en).bind fun x => ((getC 4 en).bind lenD).bind fun y => idxD x y).bind Cell.val).into en (unpR [7, 8] en)).andThen fun en => (((lstR (R.ok [])).into en (setR 5 en)).andThen fun en => ((((((getC 0 en).bind fun x => (cstD (.int 0) en).bind fun y => idxD x y).bind lenD).bind rng1D).into en fun xs => forD (turnD (.nm 6) l0_pair_nodes) xs en).andThen fun en => (ownAt 4 en fun xs => (((getC 5 en).bind tupleD).bind asD).into en fun d => if xs.length < 16777216 then .nx (en.set 4 (.own (xs ++ [d]))) else .no))))
def g_pair_nodes : DL.Env → Out := fun en =>
  ((((consR (varD 0 en) (consR (varD 1 en) (R.ok []))).bind m_check_lists).into en fun _ => .nx en).andThen fun en => (((lstR (consR (tupR (consR (((getC 0 en).bind fun x => (cstD (.int 1) en).bind fun y => idxD x y).bind Cell.val) (consR (((getC 1 en).bind fun x => (cstD (.int 1) en).bind fun y => idxD x y).bind Cell.val) (R.ok [])))) (R.ok []))).into en (setR 2 en)).andThen fun en => ((((((getC 2 en).bind fun x => (cstD (.int 0) en).bind fun y => idxD x y).bind Cell.val).quiet.bind fun x => (cstD (.int 0) en).quiet.bind fun y => d1D x y).into en (setR 3 en)).andThen fun en => (((lstR (R.ok [])).into en (setR 4 en)).andThen fun en => ((whileD l1_pair_nodes l2_pair_nodes 1000000 en).andThen fun en => ((fun en => ((tupR (consR (varD 2 en) (consR (varD 4 en) (R.ok [])))).into en .rt)) (freezeAll [2, 4] en)))))))
def m_pair_nodes : List D → R Cell := runD 10 2 g_pair_nodes
def l0_join : DL.Env → Out :=
  fun en => ((((((getC 0 en).bind fun x => (cstD (.int 2) en).bind fun y => idxD x y).bind fun x => (getC 6 en).bind fun y => idxD x y).bind Cell.val).into en (setR 8 en)).andThen fun en => ((((((getC 1 en).bind fun x => (cstD (.int 2) en).bind fun y => idxD x y).bind fun x => (getC 7 en).bind fun y => idxD x y).bind Cell.val).into en (setR 9 en)).andThen fun en => ((((getC 2 en).bind fun x => (cstD (.str (PySem.Str.ofString "both")) en).bind fun y => eqD x y).bind asB).into en fun b => if b = true then (ownAt 3 en fun xs => (((consR (varD 8 en) (consR (varD 9 en) (R.ok []))).bind m_met_by_both).bind asD).into en fun d => if xs.length < 16777216 then .nx (en.set 3 (.own (xs ++ [d]))) else .no) else ((((getC 2 en).bind fun x => (cstD (.str (PySem.Str.ofString "one")) en).bind fun y => eqD x y).bind asB).into en fun b => if b = true then (ownAt 3 en fun xs => (((consR (varD 8 en) (consR (varD 9 en) (R.ok []))).bind m_met_by_one).bind asD).into en fun d => if xs.length < 16777216 then .nx (en.set 3 (.own (xs ++ [d]))) else .no) else (ownAt 3 en fun xs => (((consR (varD 8 en) (consR (varD 9 en) (R.ok []))).bind m_told_by_one).bind asD).into en fun d => if xs.length < 16777216 then .nx (en.set 3 (.own (xs ++ [d]))) else .no)))))
def g_join : DL.Env → Out := fun en =>
  ((((consR (varD 0 en) (consR (varD 1 en) (R.ok []))).bind m_pair_nodes).into en (unpR [4, 5] en)).andThen fun en => (((lstR (R.ok [])).into en (setR 3 en)).andThen fun en => ((((varD 4 en).bind itemsA).into en fun xs => forD (turnD (.tp [6, 7]) l0_join) xs en).andThen fun en => (((consR (tupR (consR (((getC 0 en).bind fun x => (cstD (.int 0) en).bind fun y => idxD x y).bind tupleD) (consR (cstD (.int 0) en) (consR ((getC 3 en).bind tupleD) (consR ((getC 5 en).bind tupleD) (R.ok [])))))) (R.ok [])).bind m_reduce).into en .rt))))
def m_join : List D → R Cell := runD 10 3 g_join
def l0_join_all : DL.Env → Out :=
  fun en => (((consR (varD 2 en) (consR (varD 3 en) (consR (varD 1 en) (R.ok [])))).bind m_join).into en (setR 2 en))
def g_join_all : DL.Env → Out := fun en =>
  (((((getC 0 en).bind fun x => (cstD (.int 0) en).bind fun y => idxD x y).bind Cell.val).into en (setR 2 en)).andThen fun en => (((((getC 0 en).bind fun x => ((cstD (.int 1) en).bind asI).bind fun l => (R.ok none).bind fun u => sliceA x l u).bind itemsA).into en fun xs => forD (turnD (.nm 3) l0_join_all) xs en).andThen fun en => (((consR (varD 2 en) (R.ok [])).bind m_reduce).into en .rt)))
def m_join_all : List D → R Cell := runD 4 2 g_join_all
def g_law_cell : DL.Env → Out := fun en =>
  (((((getC 1 en).bind fun x => ((getC 0 en).bind lenD).bind fun y => intB (fun i j => decide (i < j)) x y).bind asB).into en fun b => if b = true then ((((getC 0 en).bind fun x => (getC 1 en).bind fun y => idxD x y).bind Cell.val).into en .rt) else (Out.nx en)).andThen fun en => ((cstD (.int 0) en).into en .rt))
def m_law_cell : List D → R Cell := runD 2 2 g_law_cell
def l0_law_draw : DL.Env → Out :=
  fun en => ((ownAt 4 en fun xs => (((getC 3 en).bind fun x => (getC 7 en).bind fun y => modD x y).bind asD).into en fun d => if xs.length < 16777216 then .nx (en.set 4 (.own (xs ++ [d]))) else .no).andThen fun en => (((getC 3 en).bind fun x => (getC 7 en).bind fun y => divD x y).into en (setR 3 en)))
def l1_law_draw : DL.Env → Out :=
  fun en => (((((((getC 5 en).bind fun x => (cstD (.int 48271) en).bind fun y => mulD x y).bind fun x => (cstD (.int 11) en).bind fun y => addD x y).bind fun x => (getC 6 en).bind fun y => addD x y).bind fun x => (cstD (.int 2147483647) en).bind fun y => modD x y).into en (setR 5 en)).andThen fun en => ((((((getC 5 en).bind fun x => (cstD (.int 69621) en).bind fun y => mulD x y).bind fun x => (cstD (.int 3) en).bind fun y => addD x y).bind fun x => (cstD (.int 2147483647) en).bind fun y => modD x y).into en (setR 5 en)).andThen fun en => (ownAt 4 en fun xs => ((((getC 5 en).bind fun x => (cstD (.int 7) en).bind fun y => divD x y).bind fun x => ((getC 2 en).bind fun x => (getC 6 en).bind fun y => idxD x y).bind fun y => modD x y).bind asD).into en fun d => if xs.length < 16777216 then .nx (en.set 4 (.own (xs ++ [d]))) else .no)))
def g_law_draw : DL.Env → Out := fun en =>
  ((((consR (varD 0 en) (consR (varD 1 en) (R.ok []))).bind m_law_cell).into en (setR 3 en)).andThen fun en => (((((getC 3 en).bind fun x => (cstD (.int 0) en).bind fun y => intB (fun i j => decide (i < j)) x y).bind asB).into en fun b => if b = true then (((getC 3 en).bind negD).into en (setR 3 en)) else (Out.nx en)).andThen fun en => (((lstR (R.ok [])).into en (setR 4 en)).andThen fun en => (((((getC 3 en).bind fun x => ((cstD (.int 10) en).bind fun x => (cstD (.int 18) en).bind fun y => powD x y).bind fun y => intB (fun i j => decide (j ≤ i)) x y).bind asB).into en fun b => if b = true then ((((getC 3 en).bind fun x => ((cstD (.int 10) en).bind fun x => (cstD (.int 18) en).bind fun y => powD x y).bind fun y => intI (fun i j => i - j) x y).into en (setR 3 en)).andThen fun en => ((((varD 2 en).bind itemsA).into en fun xs => forD (turnD (.nm 7) l0_law_draw) xs en).andThen fun en => ((getC 4 en).into en .rt))) else (Out.nx en)).andThen fun en => ((((((getC 3 en).bind fun x => (cstD (.int 1) en).bind fun y => addD x y).bind fun x => ((cstD (.int 31) en).bind fun x => (getC 1 en).bind fun y => mulD x y).bind fun y => addD x y).bind fun x => (cstD (.int 2147483647) en).bind fun y => modD x y).into en (setR 5 en)).andThen fun en => (((((getC 2 en).bind lenD).bind rng1D).into en fun xs => forD (turnD (.nm 6) l1_law_draw) xs en).andThen fun en => ((getC 4 en).into en .rt)))))))
def m_law_draw : List D → R Cell := runD 8 3 g_law_draw
def l0_law_some_monitor : DL.Env → Out :=
  fun en => (ownAt 12 en fun xs => ((((((getC 6 en).bind fun x => (((((getC 9 en).bind fun x => (getC 2 en).bind fun y => mulD x y).bind fun x => (getC 13 en).bind fun y => addD x y).bind fun x => (cstD (.int 7) en).bind fun y => addD x y).bind fun x => (cstD (.int 60) en).bind fun y => modD x y).bind fun y => idxD x y).bind fun x => ((cstD (.int 1) en).bind fun x => ((getC 9 en).bind fun x => (cstD (.int 5) en).bind fun y => divD x y).bind fun y => addD x y).bind fun y => mulD x y).bind fun x => (getC 13 en).bind fun y => addD x y).bind fun x => (getC 5 en).bind fun y => modD x y).bind asD).into en fun d => if xs.length < 16777216 then .nx (en.set 12 (.own (xs ++ [d]))) else .no)
def l1_law_some_monitor : DL.Env → Out :=
  fun en => (((((getC 6 en).bind fun x => ((getC 9 en).bind fun x => (cstD (.int 60) en).bind fun y => modD x y).bind fun y => idxD x y).bind Cell.val).into en (setR 11 en)).andThen fun en => ((ownAt 7 en fun xs => ((((lstR (consR (cstD (.str (PySem.Str.ofString "sure")) en) (consR (cstD (.str (PySem.Str.ofString "never")) en) (consR (cstD (.str (PySem.Str.ofString "unknown")) en) (consR (cstD (.str (PySem.Str.ofString "impossible")) en) (R.ok [])))))).bind fun x => (((getC 11 en).bind fun x => ((getC 9 en).bind fun x => (cstD (.int 60) en).bind fun y => divD x y).bind fun y => addD x y).bind fun x => ((cstD (.int 2) en).bind fun x => ((getC 11 en).bind fun x => (cstD (.int 3) en).bind fun y => modD x y).bind fun y => addD x y).bind fun y => modD x y).bind fun y => idxD x y).bind Cell.val).bind asD).into en fun d => if xs.length < 16777216 then .nx (en.set 7 (.own (xs ++ [d]))) else .no).andThen fun en => (((lstR (R.ok [])).into en (setR 12 en)).andThen fun en => ((((varD 2 en).bind rng1D).into en fun xs => forD (turnD (.nm 13) l0_law_some_monitor) xs en).andThen fun en => (ownAt 8 en fun xs => (((getC 12 en).bind tupleD).bind asD).into en fun d => if xs.length < 16777216 then .nx (en.set 8 (.own (xs ++ [d]))) else .no)))))
def g_law_some_monitor : DL.Env → Out := fun en =>
  ((((lstR (consR (tupR (consR (cstD (.int 0) en) (R.ok []))) (consR (tupR (consR (cstD .none en) (R.ok []))) (consR (tupR (consR (cstD (.int 1) en) (R.ok []))) (consR (tupR (R.ok [])) (consR (tupR (consR (cstD (.int 0) en) (consR (cstD (.int 1) en) (R.ok [])))) (consR (tupR (consR ((cstD (.int 2000000000) en).bind negD) (consR (cstD .none en) (R.ok [])))) (R.ok [])))))))).bind fun x => (R.ok none).bind fun l => ((varD 2 en).bind asI).bind fun u => sliceA x l u).into en (setR 4 en)).andThen fun en => ((((cstD (.int 1) en).bind fun x => (((consR (varD 0 en) (consR (varD 1 en) (consR (lstR (consR (varD 3 en) (R.ok []))) (R.ok [])))).bind m_law_draw).bind fun x => (cstD (.int 0) en).bind fun y => idxD x y).bind fun y => addD x y).into en (setR 5 en)).andThen fun en => ((((consR (varD 0 en) (consR ((getC 1 en).bind fun x => (cstD (.int 1) en).bind fun y => addD x y) (consR ((lstR (consR (cstD (.int 97) en) (R.ok []))).bind fun x => (cstD (.int 60) en).bind fun y => mulD x y) (R.ok [])))).bind m_law_draw).into en (setR 6 en)).andThen fun en => (((lstR (R.ok [])).into en (setR 7 en)).andThen fun en => (((lstR (R.ok [])).into en (setR 8 en)).andThen fun en => ((((varD 5 en).bind rng1D).into en fun xs => forD (turnD (.nm 9) l1_law_some_monitor) xs en).andThen fun en => ((((((consR (varD 0 en) (consR ((getC 1 en).bind fun x => (cstD (.int 2) en).bind fun y => addD x y) (consR (lstR (consR (varD 5 en) (R.ok []))) (R.ok [])))).bind m_law_draw).bind fun x => (cstD (.int 0) en).bind fun y => idxD x y).bind Cell.val).into en (setR 10 en)).andThen fun en => ((tupR (consR ((getC 4 en).bind tupleD) (consR (varD 10 en) (consR ((getC 7 en).bind tupleD) (consR ((getC 8 en).bind tupleD) (R.ok [])))))).into en .rt))))))))
def m_law_some_monitor : List D → R Cell := runD 14 4 g_law_some_monitor
def g_law_two_monitors : DL.Env → Out := fun en =>
  ((((cstD (.int 1) en).bind fun x => (((consR (varD 0 en) (consR (cstD (.int 0) en) (consR (lstR (consR (cstD (.int 3) en) (R.ok []))) (R.ok [])))).bind m_law_draw).bind fun x => (cstD (.int 0) en).bind fun y => idxD x y).bind fun y => addD x y).into en (setR 1 en)).andThen fun en => ((((consR (varD 0 en) (consR (cstD (.int 1) en) (consR (varD 1 en) (consR (cstD (.int 6) en) (R.ok []))))).bind m_law_some_monitor).into en (setR 2 en)).andThen fun en => ((((consR (varD 0 en) (consR (cstD (.int 5) en) (consR (varD 1 en) (consR (cstD (.int 6) en) (R.ok []))))).bind m_law_some_monitor).into en (setR 3 en)).andThen fun en => ((((consR (varD 0 en) (consR (cstD (.int 9) en) (consR (lstR (consR (cstD (.int 5) en) (consR (cstD (.int 6) en) (consR (cstD (.int 4) en) (R.ok []))))) (R.ok [])))).bind m_law_draw).into en (setR 4 en)).andThen fun en => ((((((getC 4 en).bind fun x => (cstD (.int 0) en).bind fun y => idxD x y).bind fun x => (cstD (.int 0) en).bind fun y => eqD x y).bind asB).into en fun b => if b = true then ((varD 2 en).into en (setR 3 en)) else (Out.nx en)).andThen fun en => ((((((getC 4 en).bind fun x => (cstD (.int 0) en).bind fun y => idxD x y).bind fun x => (cstD (.int 1) en).bind fun y => eqD x y).bind asB).into en fun b => if b = true then (((((getC 2 en).bind fun x => (cstD (.int 2) en).bind fun y => idxD x y).bind listD).into en (setR 5 en)).andThen fun en => ((((((lstR (consR (cstD (.str (PySem.Str.ofString "sure")) en) (consR (cstD (.str (PySem.Str.ofString "never")) en) (consR (cstD (.str (PySem.Str.ofString "unknown")) en) (consR (cstD (.str (PySem.Str.ofString "impossible")) en) (R.ok [])))))).bind fun x => ((getC 4 en).bind fun x => (cstD (.int 2) en).bind fun y => idxD x y).bind fun y => idxD x y).bind Cell.val).bind asD).into en fun d => ownAt 5 en fun xs => ((((getC 4 en).bind fun x => (cstD (.int 1) en).bind fun y => idxD x y).bind fun x => ((getC 5 en).bind lenD).bind fun y => modD x y).bind cellI).into en fun k => match setAt xs k d with | some ys => .nx (en.set 5 (.own ys)) | none => .no).andThen fun en => ((tupR (consR (((getC 2 en).bind fun x => (cstD (.int 0) en).bind fun y => idxD x y).bind Cell.val) (consR (((getC 2 en).bind fun x => (cstD (.int 1) en).bind fun y => idxD x y).bind Cell.val) (consR ((getC 5 en).bind tupleD) (consR (((getC 2 en).bind fun x => (cstD (.int 3) en).bind fun y => idxD x y).bind Cell.val) (R.ok [])))))).into en (setR 3 en)))) else (Out.nx en)).andThen fun en => ((tupR (consR (varD 2 en) (consR (varD 3 en) (R.ok [])))).into en .rt)))))))
def m_law_two_monitors : List D → R Cell := runD 6 1 g_law_two_monitors
def g_law_opposed : DL.Env → Out := fun en =>
  (((((getC 0 en).bind fun x => (cstD (.str (PySem.Str.ofString "sure")) en).bind fun y => eqD x y).bind asB).into en fun b => if b = true then ((cstD (.str (PySem.Str.ofString "never")) en).into en .rt) else (Out.nx en)).andThen fun en => (((((getC 0 en).bind fun x => (cstD (.str (PySem.Str.ofString "never")) en).bind fun y => eqD x y).bind asB).into en fun b => if b = true then ((cstD (.str (PySem.Str.ofString "sure")) en).into en .rt) else (Out.nx en)).andThen fun en => ((getC 0 en).into en .rt)))
def m_law_opposed : List D → R Cell := runD 1 1 g_law_opposed
def l0_law_reach : DL.Env → Out :=
  fun en => ((((getC 4 en).bind fun x => (getC 2 en).bind fun y => notInD x y).bind asB).into en fun b => if b = true then (ownAt 2 en fun xs => ((varD 4 en).bind asD).into en fun d => if xs.length < 16777216 then .nx (en.set 2 (.own (xs ++ [d]))) else .no) else (Out.nx en))
def l1_law_reach : DL.Env → Out :=
  fun en => ((((getC 3 en).bind fun x => ((getC 2 en).bind lenD).bind fun y => intB (fun i j => decide (i < j)) x y).bind asB).into en fun b => if b = true then ((((((getC 0 en).bind fun x => (cstD (.int 3) en).bind fun y => idxD x y).bind fun x => ((getC 2 en).bind fun x => (getC 3 en).bind fun y => idxD x y).bind fun y => idxD x y).bind Cell.val).bind itemsA).into en fun xs => forD (turnD (.nm 4) l0_law_reach) xs en) else (Out.nx en))
def g_law_reach : DL.Env → Out := fun en =>
  (((lstR (consR (varD 1 en) (R.ok []))).into en (setR 2 en)).andThen fun en => ((((((getC 0 en).bind fun x => (cstD (.int 2) en).bind fun y => idxD x y).bind lenD).bind rng1D).into en fun xs => forD (turnD (.nm 3) l1_law_reach) xs en).andThen fun en => ((getC 2 en).into en .rt)))
def m_law_reach : List D → R Cell := runD 5 2 g_law_reach
def l0_law_apart : DL.Env → Out :=
  fun en => ((andR (notR (((((getC 3 en).bind fun x => (getC 5 en).bind fun y => idxD x y).bind fun x => (getC 6 en).bind fun y => idxD x y).bind Cell.val).bind asB)) (((((((getC 1 en).bind fun x => (getC 5 en).bind fun y => idxD x y).bind lenD).bind rng1D).bind fun xs => lcL (lcD ([7] : List Nat) (.nm 7) (fun en => (((((getC 3 en).bind fun x => (((getC 1 en).bind fun x => (getC 5 en).bind fun y => idxD x y).bind fun x => (getC 7 en).bind fun y => idxD x y).bind fun y => idxD x y).bind fun x => (((getC 1 en).bind fun x => (getC 6 en).bind fun y => idxD x y).bind fun x => (getC 7 en).bind fun y => idxD x y).bind fun y => idxD x y).bind Cell.val).bind asB)) (fun en => (varD 7 en)) xs en)).bind fun x => (lstR (R.ok [])).bind fun y => neD x y).bind asB)).into en fun b => if b = true then ((((cstD (.bool true) en).bind asD).into en fun d => own2At 3 en fun xss => ((varD 5 en).bind cellI).into en fun k => match ixN xss.length k with | none => .no | some n => ((varD 6 en).bind cellI).into en fun j => match setAt (xss.getD n []) j d with | some ys => .nx (en.set 3 (.own2 (xss.set n ys))) | none => .no).andThen fun en => ((cstD (.bool true) en).into en (setR 4 en))) else (Out.nx en))
def l1_law_apart : DL.Env → Out :=
  fun en => (((varD 2 en).bind rng1D).into en fun xs => forD (turnD (.nm 6) l0_law_apart) xs en)
def l2_law_apart : DL.Env → R Bool :=
  fun en => ((varD 4 en).bind asB)
def l3_law_apart : DL.Env → Out :=
  fun en => (((cstD (.bool false) en).into en (setR 4 en)).andThen fun en => (((varD 2 en).bind rng1D).into en fun xs => forD (turnD (.nm 5) l1_law_apart) xs en))
def g_law_apart : DL.Env → Out := fun en =>
  ((((getC 0 en).bind lenD).into en (setR 2 en)).andThen fun en => (((((varD 2 en).bind rng1D).bind fun xs => lcR (lcD ([5] : List Nat) (.nm 5) (fun en => (R.ok true)) (fun en => (((varD 2 en).bind rng1D).bind fun xs => lcL (lcD ([6] : List Nat) (.nm 6) (fun en => (R.ok true)) (fun en => (((getC 0 en).bind fun x => (getC 5 en).bind fun y => idxD x y).bind fun x => ((getC 0 en).bind fun x => (getC 6 en).bind fun y => idxD x y).bind fun y => neD x y)) xs en))) xs en)).into en (setR 3 en)).andThen fun en => (((cstD (.bool true) en).into en (setR 4 en)).andThen fun en => ((whileD l2_law_apart l3_law_apart 1000000 en).andThen fun en => ((getC 3 en).into en .rt)))))
def m_law_apart : List D → R Cell := runD 8 2 g_law_apart
def l0_law_smallest : DL.Env → Out :=
  fun en => (((((((getC 3 en).bind itemsA).bind fun xs => lcL (lcD ([8] : List Nat) (.nm 8) (fun en => (notR (((((getC 2 en).bind fun x => (getC 4 en).bind fun y => idxD x y).bind fun x => (getC 8 en).bind fun y => idxD x y).bind Cell.val).bind asB))) (fun en => (varD 8 en)) xs en)).bind lenD).bind fun x => (cstD (.int 0) en).bind fun y => eqD x y).bind asB).into en fun b => if b = true then (ownAt 3 en fun xs => ((varD 4 en).bind asD).into en fun d => if xs.length < 16777216 then .nx (en.set 3 (.own (xs ++ [d]))) else .no) else (Out.nx en))
def l1_law_smallest : DL.Env → Out :=
  fun en => (ownAt 6 en fun xs => (((((((getC 3 en).bind lenD).bind rng1D).bind fun xs => lcL (lcD ([9] : List Nat) (.nm 9) (fun en => (notR (((((getC 2 en).bind fun x => ((getC 3 en).bind fun x => (getC 9 en).bind fun y => idxD x y).bind fun y => idxD x y).bind fun x => (getC 7 en).bind fun y => idxD x y).bind Cell.val).bind asB))) (fun en => (varD 9 en)) xs en)).bind fun x => (cstD (.int 0) en).bind fun y => idxD x y).bind Cell.val).bind asD).into en fun d => if xs.length < 16777216 then .nx (en.set 6 (.own (xs ++ [d]))) else .no)
def l2_law_smallest : DL.Env → Out :=
  fun en => (((lstR (R.ok [])).into en (setR 6 en)).andThen fun en => (((((((getC 0 en).bind fun x => (cstD (.int 3) en).bind fun y => idxD x y).bind fun x => (getC 4 en).bind fun y => idxD x y).bind Cell.val).bind itemsA).into en fun xs => forD (turnD (.nm 7) l1_law_smallest) xs en).andThen fun en => (ownAt 5 en fun xs => (((getC 6 en).bind tupleD).bind asD).into en fun d => if xs.length < 16777216 then .nx (en.set 5 (.own (xs ++ [d]))) else .no)))
def g_law_smallest : DL.Env → Out := fun en =>
  ((((consR (varD 0 en) (consR (((getC 0 en).bind fun x => (cstD (.int 1) en).bind fun y => idxD x y).bind Cell.val) (R.ok []))).bind m_law_reach).into en (setR 1 en)).andThen fun en => ((((consR (((getC 0 en).bind fun x => (cstD (.int 2) en).bind fun y => idxD x y).bind Cell.val) (consR (((getC 0 en).bind fun x => (cstD (.int 3) en).bind fun y => idxD x y).bind Cell.val) (R.ok []))).bind m_law_apart).into en (setR 2 en)).andThen fun en => (((lstR (R.ok [])).into en (setR 3 en)).andThen fun en => (((fun en => (((varD 1 en).bind itemsA).into en fun xs => forD (turnD (.nm 4) l0_law_smallest) xs en)) (freezeAll [1] en)).andThen fun en => (((lstR (R.ok [])).into en (setR 5 en)).andThen fun en => (((fun en => (((varD 3 en).bind itemsA).into en fun xs => forD (turnD (.nm 4) l2_law_smallest) xs en)) (freezeAll [3] en)).andThen fun en => ((tupR (consR (((getC 0 en).bind fun x => (cstD (.int 0) en).bind fun y => idxD x y).bind tupleD) (consR (cstD (.int 0) en) (consR ((((getC 3 en).bind itemsA).bind fun xs => lcL (lcD ([4] : List Nat) (.nm 4) (fun en => (R.ok true)) (fun en => ((((getC 0 en).bind fun x => (cstD (.int 2) en).bind fun y => idxD x y).bind fun x => (getC 4 en).bind fun y => idxD x y).bind Cell.val)) xs en)).bind tupleD) (consR ((getC 5 en).bind tupleD) (R.ok [])))))).into en .rt)))))))
def m_law_smallest : List D → R Cell := runD 10 1 g_law_smallest
def l0_law_both_nodes : DL.Env → Out :=
  fun en => (((tupR (consR (((((getC 0 en).bind fun x => (cstD (.int 3) en).bind fun y => idxD x y).bind fun x => (((getC 2 en).bind fun x => (getC 4 en).bind fun y => idxD x y).bind fun x => (cstD (.int 0) en).bind fun y => idxD x y).bind fun y => idxD x y).bind fun x => (getC 5 en).bind fun y => idxD x y).bind Cell.val) (consR (((((getC 1 en).bind fun x => (cstD (.int 3) en).bind fun y => idxD x y).bind fun x => (((getC 2 en).bind fun x => (getC 4 en).bind fun y => idxD x y).bind fun x => (cstD (.int 1) en).bind fun y => idxD x y).bind fun y => idxD x y).bind fun x => (getC 5 en).bind fun y => idxD x y).bind Cell.val) (R.ok [])))).into en (setR 6 en)).andThen fun en => ((((getC 6 en).bind fun x => (getC 3 en).bind fun y => notInD x y).bind asB).into en fun b => if b = true then ((ownAt 3 en fun xs => ((varD 6 en).bind asD).into en fun d => if xs.length < 16777216 then .nx (en.set 3 (.own (xs ++ [d]))) else .no).andThen fun en => (ownAt 2 en fun xs => (((getC 6 en).bind fun x => (tupR (consR ((((getC 2 en).bind fun x => (getC 4 en).bind fun y => idxD x y).bind fun x => (cstD (.int 2) en).bind fun y => idxD x y).bind fun x => (tupR (consR (varD 5 en) (R.ok []))).bind fun y => addD x y) (R.ok []))).bind fun y => addD x y).bind asD).into en fun d => if xs.length < 16777216 then .nx (en.set 2 (.own (xs ++ [d]))) else .no)) else (Out.nx en)))
def l1_law_both_nodes : DL.Env → Out :=
  fun en => ((((getC 4 en).bind fun x => ((getC 2 en).bind lenD).bind fun y => intB (fun i j => decide (i < j)) x y).bind asB).into en fun b => if b = true then (((((getC 0 en).bind fun x => (cstD (.int 0) en).bind fun y => idxD x y).bind lenD).bind rng1D).into en fun xs => forD (turnD (.nm 5) l0_law_both_nodes) xs en) else (Out.nx en))
def g_law_both_nodes : DL.Env → Out := fun en =>
  (((lstR (consR (tupR (consR (((getC 0 en).bind fun x => (cstD (.int 1) en).bind fun y => idxD x y).bind Cell.val) (consR (((getC 1 en).bind fun x => (cstD (.int 1) en).bind fun y => idxD x y).bind Cell.val) (consR (tupR (R.ok [])) (R.ok []))))) (R.ok []))).into en (setR 2 en)).andThen fun en => (((lstR (consR (tupR (consR (((getC 0 en).bind fun x => (cstD (.int 1) en).bind fun y => idxD x y).bind Cell.val) (consR (((getC 1 en).bind fun x => (cstD (.int 1) en).bind fun y => idxD x y).bind Cell.val) (R.ok [])))) (R.ok []))).into en (setR 3 en)).andThen fun en => (((((((getC 0 en).bind fun x => (cstD (.int 2) en).bind fun y => idxD x y).bind lenD).bind fun x => (((getC 1 en).bind fun x => (cstD (.int 2) en).bind fun y => idxD x y).bind lenD).bind fun y => mulD x y).bind rng1D).into en fun xs => forD (turnD (.nm 4) l1_law_both_nodes) xs en).andThen fun en => ((getC 2 en).into en .rt))))
def m_law_both_nodes : List D → R Cell := runD 7 2 g_law_both_nodes
def g_law_joined_verdict (rec : List D → R Cell) : DL.Env → Out := fun en =>
  (((((getC 0 en).bind fun x => (cstD (.str (PySem.Str.ofString "one")) en).bind fun y => eqD x y).bind asB).into en fun b => if b = true then (((consR ((consR (cstD (.str (PySem.Str.ofString "both")) en) (consR ((consR (varD 1 en) (R.ok [])).bind m_law_opposed) (consR ((consR (varD 2 en) (R.ok [])).bind m_law_opposed) (R.ok [])))).bind rec) (R.ok [])).bind m_law_opposed).into en .rt) else (Out.nx en)).andThen fun en => (((lstR (consR (varD 1 en) (consR (varD 2 en) (R.ok [])))).into en (setR 3 en)).andThen fun en => (((((cstD (.str (PySem.Str.ofString "impossible")) en).bind fun x => (getC 3 en).bind fun y => inD x y).bind asB).into en fun b => if b = true then ((cstD (.str (PySem.Str.ofString "impossible")) en).into en .rt) else (Out.nx en)).andThen fun en => (((((getC 0 en).bind fun x => (cstD (.str (PySem.Str.ofString "told")) en).bind fun y => eqD x y).bind asB).into en fun b => if b = true then (((andR (((cstD (.str (PySem.Str.ofString "sure")) en).bind fun x => (getC 3 en).bind fun y => inD x y).bind asB) (((cstD (.str (PySem.Str.ofString "never")) en).bind fun x => (getC 3 en).bind fun y => inD x y).bind asB)).into en fun b => if b = true then ((cstD (.str (PySem.Str.ofString "impossible")) en).into en .rt) else (Out.nx en)).andThen fun en => (((((getC 3 en).bind itemsA).bind fun xs => lcL (lcD ([5] : List Nat) (.nm 5) (fun en => (((getC 5 en).bind fun x => (cstD (.str (PySem.Str.ofString "unknown")) en).bind fun y => neD x y).bind asB)) (fun en => (varD 5 en)) xs en)).into en (setR 4 en)).andThen fun en => (((((getC 4 en).bind fun x => (lstR (consR (cstD (.str (PySem.Str.ofString "unknown")) en) (R.ok []))).bind fun y => addD x y).bind fun x => (cstD (.int 0) en).bind fun y => idxD x y).bind Cell.val).into en .rt))) else (Out.nx en)).andThen fun en => (((((cstD (.str (PySem.Str.ofString "never")) en).bind fun x => (getC 3 en).bind fun y => inD x y).bind asB).into en fun b => if b = true then ((cstD (.str (PySem.Str.ofString "never")) en).into en .rt) else (Out.nx en)).andThen fun en => ((((lstR (consR (cstD (.str (PySem.Str.ofString "unknown")) en) (consR (cstD (.str (PySem.Str.ofString "sure")) en) (R.ok [])))).bind fun x => (((getC 3 en).bind fun x => (lstR (consR (cstD (.str (PySem.Str.ofString "sure")) en) (consR (cstD (.str (PySem.Str.ofString "sure")) en) (R.ok [])))).bind fun y => eqD x y).bind intD).bind fun y => idxD x y).bind Cell.val).into en .rt))))))
def m_law_joined_verdict : Nat → List D → R Cell
  | 0 => fun _ => .no
  | n + 1 => runD 6 3 (g_law_joined_verdict (m_law_joined_verdict n))
theorem mn_law_joined_verdict : ∀ (n : Nat) (ds : List D), ds.length ≠ 3 → m_law_joined_verdict n ds = .no
  | 0, _, _ => rfl
  | _ + 1, ds, h => runD_no ds h
theorem mp_law_joined_verdict : ∀ (n : Nat) (ds : List D) (c : Cell), m_law_joined_verdict n ds = .ok c → c.plain = true
  | 0, _, _, h => by cases h
  | _ + 1, ds, c, h => runD_plain ds c h
def l0_law_joined_monitor : DL.Env → Out :=
  fun en => (ownAt 5 en fun xs => (((((((getC 1 en).bind fun x => (cstD (.int 0) en).bind fun y => idxD x y).bind lenD).bind rng1D).bind fun xs => lcL (lcD ([10] : List Nat) (.nm 10) (fun en => (R.ok true)) (fun en => (((getC 4 en).bind lstC).bind fun x => (tupR (consR (((((getC 1 en).bind fun x => (cstD (.int 3) en).bind fun y => idxD x y).bind fun x => (getC 7 en).bind fun y => idxD x y).bind fun x => (getC 10 en).bind fun y => idxD x y).bind Cell.val) (consR (((((getC 2 en).bind fun x => (cstD (.int 3) en).bind fun y => idxD x y).bind fun x => (getC 8 en).bind fun y => idxD x y).bind fun x => (getC 10 en).bind fun y => idxD x y).bind Cell.val) (R.ok [])))).bind fun y => indexD x y)) xs en)).bind tupleD).bind asD).into en fun d => if xs.length < 16777216 then .nx (en.set 5 (.own (xs ++ [d]))) else .no)
def g_law_joined_monitor : DL.Env → Out := fun en =>
  ((((consR (varD 1 en) (consR (varD 2 en) (R.ok []))).bind m_law_both_nodes).into en (setR 3 en)).andThen fun en => (((((getC 3 en).bind itemsA).bind fun xs => lcL (lcD ([9] : List Nat) (.nm 9) (fun en => (R.ok true)) (fun en => (tupR (consR (((getC 9 en).bind fun x => (cstD (.int 0) en).bind fun y => idxD x y).bind Cell.val) (consR (((getC 9 en).bind fun x => (cstD (.int 1) en).bind fun y => idxD x y).bind Cell.val) (R.ok []))))) xs en)).into en (setR 4 en)).andThen fun en => (((lstR (R.ok [])).into en (setR 5 en)).andThen fun en => (((fun en => (((varD 4 en).bind itemsA).into en fun xs => forD (turnD (.tp [7, 8]) l0_law_joined_monitor) xs en)) (freezeAll [4] en)).andThen fun en => ((((((getC 4 en).bind itemsA).bind fun xs => lcL (lcD ([7, 8] : List Nat) (.tp [7, 8]) (fun en => (R.ok true)) (fun en => ((consR (varD 0 en) (consR ((((getC 1 en).bind fun x => (cstD (.int 2) en).bind fun y => idxD x y).bind fun x => (getC 7 en).bind fun y => idxD x y).bind Cell.val) (consR ((((getC 2 en).bind fun x => (cstD (.int 2) en).bind fun y => idxD x y).bind fun x => (getC 8 en).bind fun y => idxD x y).bind Cell.val) (R.ok [])))).bind (m_law_joined_verdict 2))) xs en)).bind tupleD).into en (setR 6 en)).andThen fun en => (((consR (tupR (consR (((getC 1 en).bind fun x => (cstD (.int 0) en).bind fun y => idxD x y).bind tupleD) (consR (cstD (.int 0) en) (consR (varD 6 en) (consR ((getC 5 en).bind tupleD) (R.ok [])))))) (R.ok [])).bind m_law_smallest).into en .rt))))))
def m_law_joined_monitor : List D → R Cell := runD 11 3 g_law_joined_monitor
def l0_law_alike (rec : List D → R Cell) : DL.Env → Out :=
  fun en => ((notR (((consR (((getC 0 en).bind fun x => (getC 2 en).bind fun y => idxD x y).bind Cell.val) (consR (((getC 1 en).bind fun x => (getC 2 en).bind fun y => idxD x y).bind Cell.val) (R.ok []))).bind rec).bind asB)).into en fun b => if b = true then ((cstD (.bool false) en).into en .rt) else (Out.nx en))
def g_law_alike (rec : List D → R Cell) : DL.Env → Out := fun en =>
  (((((getC 1 en).bind isNoneD).bind asB).into en fun b => if b = true then (((getC 0 en).bind isNoneD).into en .rt) else (Out.nx en)).andThen fun en => (((((getC 1 en).bind (isiD "bool")).bind asB).into en fun b => if b = true then ((andV ((getC 0 en).bind (isiD "bool")) ((getC 0 en).bind fun x => (getC 1 en).bind fun y => eqD x y)).into en .rt) else (Out.nx en)).andThen fun en => (((((getC 1 en).bind (isiD "int")).bind asB).into en fun b => if b = true then ((andV ((getC 0 en).bind (isiD "int")) (andV (notV ((getC 0 en).bind (isiD "bool"))) ((getC 0 en).bind fun x => (getC 1 en).bind fun y => eqD x y))).into en .rt) else (Out.nx en)).andThen fun en => (((((getC 1 en).bind (isiD "str")).bind asB).into en fun b => if b = true then ((andV ((getC 0 en).bind (isiD "str")) ((getC 0 en).bind fun x => (getC 1 en).bind fun y => eqD x y)).into en .rt) else (Out.nx en)).andThen fun en => (((andR (((getC 1 en).bind (isiD "tuple")).bind asB) (notR (((getC 0 en).bind (isiD "tuple")).bind asB))).into en fun b => if b = true then ((cstD (.bool false) en).into en .rt) else (Out.nx en)).andThen fun en => (((andR (((getC 1 en).bind (isiD "list")).bind asB) (notR (((getC 0 en).bind (isiD "list")).bind asB))).into en fun b => if b = true then ((cstD (.bool false) en).into en .rt) else (Out.nx en)).andThen fun en => ((((((getC 0 en).bind lenD).bind fun x => ((getC 1 en).bind lenD).bind fun y => neD x y).bind asB).into en fun b => if b = true then ((cstD (.bool false) en).into en .rt) else (Out.nx en)).andThen fun en => (((((getC 1 en).bind lenD).bind rng1D).into en fun xs => forD (turnD (.nm 2) (l0_law_alike rec)) xs en).andThen fun en => ((cstD (.bool true) en).into en .rt)))))))))
def m_law_alike : Nat → List D → R Cell
  | 0 => fun _ => .no
  | n + 1 => runD 3 2 (g_law_alike (m_law_alike n))
theorem mn_law_alike : ∀ (n : Nat) (ds : List D), ds.length ≠ 2 → m_law_alike n ds = .no
  | 0, _, _ => rfl
  | _ + 1, ds, h => runD_no ds h
theorem mp_law_alike : ∀ (n : Nat) (ds : List D) (c : Cell), m_law_alike n ds = .ok c → c.plain = true
  | 0, _, _, h => by cases h
  | _ + 1, ds, c, h => runD_plain ds c h
def l0_law : DL.Env → Out :=
  fun en => ((((consR (varD 2 en) (consR (varD 4 en) (consR (varD 5 en) (R.ok [])))).bind m_law_joined_monitor).into en (setR 6 en)).andThen fun en => (((notR (((consR ((consR (varD 4 en) (consR (varD 5 en) (consR (varD 2 en) (R.ok [])))).bind m_join) (consR (varD 6 en) (R.ok []))).bind (m_law_alike 12)).bind asB)).into en fun b => if b = true then ((cstD (.bool false) en).into en .rt) else (Out.nx en)).andThen fun en => ((notR (((consR ((consR (lstR (consR (varD 4 en) (consR (varD 5 en) (consR (varD 4 en) (R.ok []))))) (consR (varD 2 en) (R.ok []))).bind m_join_all) (consR ((consR (varD 2 en) (consR (varD 6 en) (consR (varD 4 en) (R.ok [])))).bind m_law_joined_monitor) (R.ok []))).bind (m_law_alike 12)).bind asB)).into en fun b => if b = true then ((cstD (.bool false) en).into en .rt) else (Out.nx en))))
def g_law : DL.Env → Out := fun en =>
  ((((consR (varD 0 en) (R.ok [])).bind m_law_two_monitors).into en (unpR [4, 5] en)).andThen fun en => ((((tupR (consR (varD 4 en) (consR (varD 5 en) (R.ok [])))).bind reprD).into en (setR 1 en)).andThen fun en => ((((lstR (consR (cstD (.str (PySem.Str.ofString "both")) en) (consR (cstD (.str (PySem.Str.ofString "one")) en) (consR (cstD (.str (PySem.Str.ofString "told")) en) (R.ok []))))).bind itemsA).into en fun xs => forD (turnD (.nm 2) l0_law) xs en).andThen fun en => (((tupR (consR (((getC 4 en).bind fun x => (cstD (.int 0) en).bind fun y => idxD x y).bind Cell.val) (consR (((getC 4 en).bind fun x => (cstD (.int 1) en).bind fun y => idxD x y).bind Cell.val) (consR (((((getC 4 en).bind fun x => (cstD (.int 2) en).bind fun y => idxD x y).bind itemsA).bind fun xs => lcL (lcD ([7] : List Nat) (.nm 7) (fun en => (R.ok true)) (fun en => ((consR (varD 7 en) (R.ok [])).bind m_law_opposed)) xs en)).bind tupleD) (consR (((getC 4 en).bind fun x => (cstD (.int 3) en).bind fun y => idxD x y).bind Cell.val) (R.ok [])))))).into en (setR 3 en)).andThen fun en => (((notR (((consR ((consR (varD 4 en) (R.ok [])).bind m_opposite) (consR ((consR (varD 3 en) (R.ok [])).bind m_law_smallest) (R.ok []))).bind (m_law_alike 12)).bind asB)).into en fun b => if b = true then ((cstD (.bool false) en).into en .rt) else (Out.nx en)).andThen fun en => (((notR (((consR ((consR (lstR (consR (varD 5 en) (R.ok []))) (consR (cstD (.str (PySem.Str.ofString "one")) en) (R.ok []))).bind m_join_all) (consR ((consR (varD 5 en) (R.ok [])).bind m_law_smallest) (R.ok []))).bind (m_law_alike 12)).bind asB)).into en fun b => if b = true then ((cstD (.bool false) en).into en .rt) else (Out.nx en)).andThen fun en => ((tryB (PySem.Str.ofString "OtherReadings") (((consR (varD 4 en) (consR (tupR (consR (((getC 5 en).bind fun x => (cstD (.int 0) en).bind fun y => idxD x y).bind fun x => (tupR (consR (tupR (consR (cstD (.int 5) en) (consR (cstD (.int 5) en) (R.ok [])))) (R.ok []))).bind fun y => addD x y) (consR (((getC 5 en).bind fun x => (cstD (.int 1) en).bind fun y => idxD x y).bind Cell.val) (consR (((getC 5 en).bind fun x => (cstD (.int 2) en).bind fun y => idxD x y).bind Cell.val) (consR (((((getC 5 en).bind fun x => (cstD (.int 3) en).bind fun y => idxD x y).bind itemsA).bind fun xs => lcL (lcD ([8] : List Nat) (.nm 8) (fun en => (R.ok true)) (fun en => ((getC 8 en).bind fun x => (tupR (consR (cstD (.int 0) en) (R.ok []))).bind fun y => addD x y)) xs en)).bind tupleD) (R.ok [])))))) (consR (cstD (.str (PySem.Str.ofString "both")) en) (R.ok [])))).bind m_join).into en fun _ => .nx en) (fun en => ((((tupR (consR (varD 4 en) (consR (varD 5 en) (R.ok [])))).bind reprD).bind fun x => (getC 1 en).bind fun y => eqD x y).into en .rt))).andThen fun en => ((cstD (.bool false) en).into en .rt))))))))
def m_law : List D → R Cell := runD 9 1 g_law
end
end K89
namespace K89
open PySem PySem.Spec PyProof.Rows L2 DL
def topS (i : Nat) : Stmt := PySem.Challenge.pw_wardenworks_k89_joined_monitors.main.body.getD i (.Pass ⟨0, 0, 0, 0⟩)
/-- a def of the text -/
structure Df (K : PySem.W.Frag) (mg : Str → Option Value) (x : Str) (i : Nat) (ps : List Str) where
  f : Addr
  fd : FuncData
  F : Fun K x x (topS i) f fd
  g : mg x = some (.ref f)
  b : Binds K fd ps []
/-- what the top has left of the built-ins -/
structure Txt (K : PySem.W.Frag) (mg : Str → Option Value) : Prop where
  n_bool : mg "bool" = none
  n_int : mg "int" = none
  n_isinstance : mg "isinstance" = none
  n_len : mg "len" = none
  n_list : mg "list" = none
  n_max : mg "max" = none
  n_range : mg "range" = none
  n_repr : mg "repr" = none
  n_str : mg "str" = none
  n_tuple : mg "tuple" = none
  x_OtherReadings : Exc0 K mg "OtherReadings"
structure All (K : PySem.W.Frag) (mg : Str → Option Value) where
  d_reached_nodes : Df K mg "reached_nodes" 4 ["monitor"]
  d_grouped : Df K mg "grouped" 5 ["keys"]
  d_classes_of : Df K mg "classes_of" 6 ["verdicts", "edges"]
  d_reduce : Df K mg "reduce" 7 ["monitor"]
  d_turned : Df K mg "turned" 10 ["verdict"]
  d_opposite : Df K mg "opposite" 14 ["monitor"]
  d_met_by_both : Df K mg "met_by_both" 11 ["left", "right"]
  d_met_by_one : Df K mg "met_by_one" 12 ["left", "right"]
  d_told_by_one : Df K mg "told_by_one" 13 ["left", "right"]
  d_check_lists : Df K mg "check_lists" 9 ["monitor", "other"]
  d_pair_nodes : Df K mg "pair_nodes" 15 ["monitor", "other"]
  d_join : Df K mg "join" 16 ["monitor", "other", "kind"]
  d_join_all : Df K mg "join_all" 17 ["monitors", "kind"]
  d_law_cell : Df K mg "_law_cell" 19 ["script", "k"]
  d_law_draw : Df K mg "_law_draw" 20 ["script", "k", "sizes"]
  d_law_some_monitor : Df K mg "_law_some_monitor" 21 ["script", "k", "many", "nodes"]
  d_law_two_monitors : Df K mg "_law_two_monitors" 22 ["script"]
  d_law_opposed : Df K mg "_law_opposed" 24 ["verdict"]
  d_law_reach : Df K mg "_law_reach" 26 ["monitor", "first"]
  d_law_apart : Df K mg "_law_apart" 27 ["verdicts", "edges"]
  d_law_smallest : Df K mg "_law_smallest" 28 ["monitor"]
  d_law_both_nodes : Df K mg "_law_both_nodes" 23 ["left", "right"]
  d_law_joined_verdict : Df K mg "_law_joined_verdict" 25 ["kind", "left", "right"]
  d_law_joined_monitor : Df K mg "_law_joined_monitor" 29 ["kind", "left", "right"]
  d_law_alike : Df K mg "_law_alike" 30 ["actual", "expected"]
  d_law : Df K mg "law" 31 ["script"]
section
variable {P : Program} {w : World} {K : PySem.W.Frag} {mg : Str → Option Value} {base : Heap}
theorem sc_reached_nodes : FnScope ["monitor", "nodes", "known", "place", "later"] ["monitor"] (defScope (topS 4)) := ⟨rfl, rfl, rfl, by decide +kernel, rfl, by decide +kernel, by decide +kernel⟩
theorem ok_reached_nodes (T : Txt K mg) (D : All K mg) : FnOk P w K mg base (L2.CX P w) 1 D.d_reached_nodes.f D.d_reached_nodes.fd ["monitor"] (spD K w mg 1 m_reached_nodes) := fnD (k := 0) (N := ["monitor", "nodes", "known", "place", "later"]) (ps := ["monitor"]) (gb := g_reached_nodes) D.d_reached_nodes.F sc_reached_nodes fun cdv A outer s H E hr => by
  have sc := sc_reached_nodes
  have tk : Takes (cxOf (L2.CX P w) P w K mg base ["monitor", "nodes", "known", "place", "later"] "reached_nodes" (defScope (topS 4)) D.d_reached_nodes.f cdv A outer s H E) (fun cls d _ H => E cls d H) := takes_of rfl rfl rfl rfl
  have PO : PassesOwn (model P w) (cxOf (L2.CX P w) P w K mg base ["monitor", "nodes", "known", "place", "later"] "reached_nodes" (defScope (topS 4)) D.d_reached_nodes.f cdv A outer s H E).A (cxOf (L2.CX P w) P w K mg base ["monitor", "nodes", "known", "place", "later"] "reached_nodes" (defScope (topS 4)) D.d_reached_nodes.f cdv A outer s H E).env (cxOf (L2.CX P w) P w K mg base ["monitor", "nodes", "known", "place", "later"] "reached_nodes" (defScope (topS 4)) D.d_reached_nodes.f cdv A outer s H E).xe := passes_of rfl
  exact (ds_cons (ds_set (i := 1) sc.nd (de_lst (da_cons (de_of (dp_ix (dp_var 0) (dp_of de_int))) da_nil))) (ds_cons (ds_set (i := 2) sc.nd (de_d1 (units65 hr) (de_of (dp_ix (dp_var 0) (dp_of de_int))) de_bl)) (ds_cons (ds_set (i := 3) sc.nd de_int) (ds_cons (ds_while 1000000 PO (dt_cmp op_lt op2_intB (dp_var 3) (dp_of (de_len T.n_len (dp_var 1))) (nomark _)) (ds_cons (ds_for (T := (.nm 4)) PO rfl (df_any (de_of (dp_ix (dp_ix (dp_var 0) (dp_of de_int)) (dp_ix (dp_var 1) (dp_var 3))))) (pg_name (i := 4) sc.nd rfl (by first | exact .inl rfl | exact .inr rfl)) (ds_one (ds_if (dt_cmp (opr_dNotIn (units65 hr)) op2_dNotIn (dp_var 4) (dp_var 2) (by with_unfolding_all rfl)) (ds_cons (ds_dset 2 (units65 hr) (pv 2) (de_var 4) de_bl) (ds_one (ds_app 1 (pe_bm PySem.F.plainAttrs_list PySem.F.slot_list_append PySem.F.type_list_append mt_append (pv 1) (pa_cons (de_var 4) pa_nil))))) ds_nil))) (ds_one (ds_aug 3 sc.nd de_int ip_add)))) (ds_one (ds_retV 1))))))
theorem sc_grouped : FnScope ["keys", "numbers", "groups", "key"] ["keys"] (defScope (topS 5)) := ⟨rfl, rfl, rfl, by decide +kernel, rfl, by decide +kernel, by decide +kernel⟩
theorem ok_grouped (T : Txt K mg) (D : All K mg) : FnOk P w K mg base (L2.CX P w) 1 D.d_grouped.f D.d_grouped.fd ["keys"] (spD K w mg 1 m_grouped) := fnD (k := 0) (N := ["keys", "numbers", "groups", "key"]) (ps := ["keys"]) (gb := g_grouped) D.d_grouped.F sc_grouped fun cdv A outer s H E hr => by
  have sc := sc_grouped
  have tk : Takes (cxOf (L2.CX P w) P w K mg base ["keys", "numbers", "groups", "key"] "grouped" (defScope (topS 5)) D.d_grouped.f cdv A outer s H E) (fun cls d _ H => E cls d H) := takes_of rfl rfl rfl rfl
  have PO : PassesOwn (model P w) (cxOf (L2.CX P w) P w K mg base ["keys", "numbers", "groups", "key"] "grouped" (defScope (topS 5)) D.d_grouped.f cdv A outer s H E).A (cxOf (L2.CX P w) P w K mg base ["keys", "numbers", "groups", "key"] "grouped" (defScope (topS 5)) D.d_grouped.f cdv A outer s H E).env (cxOf (L2.CX P w) P w K mg base ["keys", "numbers", "groups", "key"] "grouped" (defScope (topS 5)) D.d_grouped.f cdv A outer s H E).xe := passes_of rfl
  exact (ds_cons (ds_set (i := 1) sc.nd de_dnew) (ds_cons (ds_set (i := 2) sc.nd (de_lst da_nil)) (ds_cons (ds_for (T := (.nm 3)) PO rfl (df_any (de_var 0)) (pg_name (i := 3) sc.nd rfl (by first | exact .inl rfl | exact .inr rfl)) (ds_cons (ds_if (dt_cmp (opr_dNotIn (units65 hr)) op2_dNotIn (dp_var 3) (dp_var 1) (by with_unfolding_all rfl)) (ds_one (ds_dset 1 (units65 hr) (pv 1) (de_var 3) (de_lenD T.n_len (dp_var 1)))) ds_nil) (ds_one (ds_app 2 (pe_bm PySem.F.plainAttrs_list PySem.F.slot_list_append PySem.F.type_list_append mt_append (pv 2) (pa_cons (de_dget (units65 hr) (dp_var 1) (dp_var 3)) pa_nil)))))) (ds_one (ds_retV 2)))))
theorem sc_classes_of : FnScope ["verdicts", "edges", "groups", "keys", "node", "finer", "later"] ["verdicts", "edges"] (defScope (topS 6)) := ⟨rfl, rfl, rfl, by decide +kernel, rfl, by decide +kernel, by decide +kernel⟩
theorem ok_classes_of (T : Txt K mg) (D : All K mg) : FnOk P w K mg base (L2.CX P w) 2 D.d_classes_of.f D.d_classes_of.fd ["verdicts", "edges"] (spD K w mg 2 m_classes_of) := fnD (k := 1) (N := ["verdicts", "edges", "groups", "keys", "node", "finer", "later"]) (ps := ["verdicts", "edges"]) (gb := g_classes_of) D.d_classes_of.F sc_classes_of fun cdv A outer s H E hr => by
  have sc := sc_classes_of
  have tk : Takes (cxOf (L2.CX P w) P w K mg base ["verdicts", "edges", "groups", "keys", "node", "finer", "later"] "classes_of" (defScope (topS 6)) D.d_classes_of.f cdv A outer s H E) (fun cls d _ H => E cls d H) := takes_of rfl rfl rfl rfl
  have PO : PassesOwn (model P w) (cxOf (L2.CX P w) P w K mg base ["verdicts", "edges", "groups", "keys", "node", "finer", "later"] "classes_of" (defScope (topS 6)) D.d_classes_of.f cdv A outer s H E).A (cxOf (L2.CX P w) P w K mg base ["verdicts", "edges", "groups", "keys", "node", "finer", "later"] "classes_of" (defScope (topS 6)) D.d_classes_of.f cdv A outer s H E).env (cxOf (L2.CX P w) P w K mg base ["verdicts", "edges", "groups", "keys", "node", "finer", "later"] "classes_of" (defScope (topS 6)) D.d_classes_of.f cdv A outer s H E).xe := passes_of rfl
  exact (ds_cons (ds_set (i := 2) sc.nd (de_call (ok_grouped T D) (hr.mono (by decide)) tk D.d_grouped.g D.d_grouped.F.kp D.d_grouped.b (da_cons (de_var 0) da_nil) (hn := runD_no) (hp := runD_plain))) (ds_one (ds_while 1000000 PO (dt_val de_bl) (ds_cons (ds_set (i := 3) sc.nd (de_lst da_nil)) (ds_cons (ds_for (T := (.nm 4)) PO rfl (df_rng1 T.n_range (de_len T.n_len (dp_var 1))) (pg_name (i := 4) sc.nd rfl (by first | exact .inl rfl | exact .inr rfl)) (ds_one (ds_app 3 (pe_bm PySem.F.plainAttrs_list PySem.F.slot_list_append PySem.F.type_list_append mt_append (pv 3) (pa_cons (de_tup (da_cons (de_of (dp_ix (dp_var 2) (dp_var 4))) (da_cons (de_tuple T.n_tuple (dp_of (de_lc (T := (.nm 6)) rfl sc.nd (di_any (dp_ix (dp_var 1) (dp_var 4))) (blkOk_by (own := [(PySem.Str.ofString "later", 6)]) (by show blkC ["verdicts", "edges", "groups", "keys", "node", "finer", "later"] (defScope (topS 6)) _ _ = true; decide +kernel)) (fun s H C cl fp => (pg_name (i := 6) sc.nd rfl (by first | exact .inl rfl | exact .inr rfl))) (fun s H C cl fp => dts_nil) (fun s H C cl fp => (de_of (dp_ix (dp_var 2) (dp_var 6))))))) da_nil))) pa_nil))))) (ds_cons (ds_frz [3] (ds_set (i := 5) sc.nd (de_call (ok_grouped T D) (hr.mono (by decide)) tk D.d_grouped.g D.d_grouped.F.kp D.d_grouped.b (da_cons (de_var 3) da_nil) (hn := runD_no) (hp := runD_plain)))) (ds_cons (ds_if (dt_cmp (op_eqD hr.units) op2_eq (dp_of (de_maxF rfl (units65 hr) T.n_max (dp_var 5) (dp_of de_int))) (dp_of (de_maxF rfl (units65 hr) T.n_max (dp_var 2) (dp_of de_int))) (nomark _)) (ds_one (ds_retV 2)) ds_nil) (ds_one (ds_frz [5] (ds_set (i := 2) sc.nd (de_var 5)))))))))))
theorem sc_reduce : FnScope ["monitor", "nodes", "places", "k", "edges", "groups", "members", "verdicts", "reduced", "node", "later"] ["monitor"] (defScope (topS 7)) := ⟨rfl, rfl, rfl, by decide +kernel, rfl, by decide +kernel, by decide +kernel⟩
theorem ok_reduce (T : Txt K mg) (D : All K mg) : FnOk P w K mg base (L2.CX P w) 3 D.d_reduce.f D.d_reduce.fd ["monitor"] (spD K w mg 1 m_reduce) := fnD (k := 2) (N := ["monitor", "nodes", "places", "k", "edges", "groups", "members", "verdicts", "reduced", "node", "later"]) (ps := ["monitor"]) (gb := g_reduce) D.d_reduce.F sc_reduce fun cdv A outer s H E hr => by
  have sc := sc_reduce
  have tk : Takes (cxOf (L2.CX P w) P w K mg base ["monitor", "nodes", "places", "k", "edges", "groups", "members", "verdicts", "reduced", "node", "later"] "reduce" (defScope (topS 7)) D.d_reduce.f cdv A outer s H E) (fun cls d _ H => E cls d H) := takes_of rfl rfl rfl rfl
  have PO : PassesOwn (model P w) (cxOf (L2.CX P w) P w K mg base ["monitor", "nodes", "places", "k", "edges", "groups", "members", "verdicts", "reduced", "node", "later"] "reduce" (defScope (topS 7)) D.d_reduce.f cdv A outer s H E).A (cxOf (L2.CX P w) P w K mg base ["monitor", "nodes", "places", "k", "edges", "groups", "members", "verdicts", "reduced", "node", "later"] "reduce" (defScope (topS 7)) D.d_reduce.f cdv A outer s H E).env (cxOf (L2.CX P w) P w K mg base ["monitor", "nodes", "places", "k", "edges", "groups", "members", "verdicts", "reduced", "node", "later"] "reduce" (defScope (topS 7)) D.d_reduce.f cdv A outer s H E).xe := passes_of rfl
  exact (ds_cons (ds_set (i := 1) sc.nd (de_call (ok_reached_nodes T D) (hr.mono (by decide)) tk D.d_reached_nodes.g D.d_reached_nodes.F.kp D.d_reached_nodes.b (da_cons (de_var 0) da_nil) (hn := runD_no) (hp := runD_plain))) (ds_cons (ds_set (i := 2) sc.nd de_dnew) (ds_cons (ds_for (T := (.nm 3)) PO rfl (df_rng1 T.n_range (de_len T.n_len (dp_var 1))) (pg_name (i := 3) sc.nd rfl (by first | exact .inl rfl | exact .inr rfl)) (ds_one (ds_dset 2 (units65 hr) (pv 2) (de_of (dp_ix (dp_var 1) (dp_var 3))) (de_var 3)))) (ds_cons (ds_set (i := 4) sc.nd (de_lc (T := (.nm 9)) rfl sc.nd (di_any (dp_var 1)) (blkOk_by (own := [(PySem.Str.ofString "node", 9)]) (by show blkC ["monitor", "nodes", "places", "k", "edges", "groups", "members", "verdicts", "reduced", "node", "later"] (defScope (topS 7)) _ _ = true; decide +kernel)) (fun s H C cl fp => (pg_name (i := 9) sc.nd rfl (by first | exact .inl rfl | exact .inr rfl))) (fun s H C cl fp => dts_nil) (fun s H C cl fp => (de_tuple T.n_tuple (dp_of (de_lc (T := (.nm 10)) rfl sc.nd (di_any (dp_ix (dp_ix (dp_var 0) (dp_of de_int)) (dp_var 9))) (blkOk_by (own := [(PySem.Str.ofString "later", 10)]) (by show blkC ["monitor", "nodes", "places", "k", "edges", "groups", "members", "verdicts", "reduced", "node", "later"] (relS _ (defScope (topS 7))) _ _ = true; decide +kernel)) (fun s H C cl fp => (pg_name (i := 10) sc.nd rfl (by first | exact .inl rfl | exact .inr rfl))) (fun s H C cl fp => dts_nil) (fun s H C cl fp => (de_dget (units65 hr) (dp_var 2) (dp_var 10))))))))) (ds_cons (ds_frz [4] (ds_set (i := 5) sc.nd (de_call (ok_classes_of T D) (hr.mono (by decide)) tk D.d_classes_of.g D.d_classes_of.F.kp D.d_classes_of.b (da_cons (de_lc (T := (.nm 9)) rfl sc.nd (di_any (dp_var 1)) (blkOk_by (own := [(PySem.Str.ofString "node", 9)]) (by show blkC ["monitor", "nodes", "places", "k", "edges", "groups", "members", "verdicts", "reduced", "node", "later"] (defScope (topS 7)) _ _ = true; decide +kernel)) (fun s H C cl fp => (pg_name (i := 9) sc.nd rfl (by first | exact .inl rfl | exact .inr rfl))) (fun s H C cl fp => dts_nil) (fun s H C cl fp => (de_of (dp_ix (dp_ix (dp_var 0) (dp_of de_int)) (dp_var 9))))) (da_cons (de_var 4) da_nil)) (hn := runD_no) (hp := runD_plain)))) (ds_cons (ds_set (i := 6) sc.nd (de_lst da_nil)) (ds_cons (ds_for (T := (.nm 3)) PO rfl (df_rng1 T.n_range (de_len T.n_len (dp_var 1))) (pg_name (i := 3) sc.nd rfl (by first | exact .inl rfl | exact .inr rfl)) (ds_one (ds_if (dt_cmp (op_eqD hr.units) op2_eq (dp_ix (dp_var 5) (dp_var 3)) (dp_of (de_len T.n_len (dp_var 6))) (nomark _)) (ds_one (ds_app 6 (pe_bm PySem.F.plainAttrs_list PySem.F.slot_list_append PySem.F.type_list_append mt_append (pv 6) (pa_cons (de_var 3) pa_nil)))) ds_nil))) (ds_cons (ds_set (i := 7) sc.nd (de_tuple T.n_tuple (dp_of (de_lc (T := (.nm 3)) rfl sc.nd (di_any (dp_var 6)) (blkOk_by (own := [(PySem.Str.ofString "k", 3)]) (by show blkC ["monitor", "nodes", "places", "k", "edges", "groups", "members", "verdicts", "reduced", "node", "later"] (defScope (topS 7)) _ _ = true; decide +kernel)) (fun s H C cl fp => (pg_name (i := 3) sc.nd rfl (by first | exact .inl rfl | exact .inr rfl))) (fun s H C cl fp => dts_nil) (fun s H C cl fp => (de_of (dp_ix (dp_ix (dp_var 0) (dp_of de_int)) (dp_ix (dp_var 1) (dp_var 3))))))))) (ds_cons (ds_set (i := 8) sc.nd (de_tuple T.n_tuple (dp_of (de_lc (T := (.nm 3)) rfl sc.nd (di_any (dp_var 6)) (blkOk_by (own := [(PySem.Str.ofString "k", 3)]) (by show blkC ["monitor", "nodes", "places", "k", "edges", "groups", "members", "verdicts", "reduced", "node", "later"] (defScope (topS 7)) _ _ = true; decide +kernel)) (fun s H C cl fp => (pg_name (i := 3) sc.nd rfl (by first | exact .inl rfl | exact .inr rfl))) (fun s H C cl fp => dts_nil) (fun s H C cl fp => (de_tuple T.n_tuple (dp_of (de_lc (T := (.nm 10)) rfl sc.nd (di_any (dp_ix (dp_var 4) (dp_var 3))) (blkOk_by (own := [(PySem.Str.ofString "later", 10)]) (by show blkC ["monitor", "nodes", "places", "k", "edges", "groups", "members", "verdicts", "reduced", "node", "later"] (relS _ (defScope (topS 7))) _ _ = true; decide +kernel)) (fun s H C cl fp => (pg_name (i := 10) sc.nd rfl (by first | exact .inl rfl | exact .inr rfl))) (fun s H C cl fp => dts_nil) (fun s H C cl fp => (de_of (dp_ix (dp_var 5) (dp_var 10)))))))))))) (ds_one (ds_ret (de_tup (da_cons (de_tuple T.n_tuple (dp_ix (dp_var 0) (dp_of de_int))) (da_cons de_int (da_cons (de_var 7) (da_cons (de_var 8) da_nil))))))))))))))))
theorem sc_turned : FnScope ["verdict"] ["verdict"] (defScope (topS 10)) := ⟨rfl, rfl, rfl, by decide +kernel, rfl, by decide +kernel, by decide +kernel⟩
theorem ok_turned (T : Txt K mg) (D : All K mg) : FnOk P w K mg base (L2.CX P w) 1 D.d_turned.f D.d_turned.fd ["verdict"] (spD K w mg 1 m_turned) := fnD (k := 0) (N := ["verdict"]) (ps := ["verdict"]) (gb := g_turned) D.d_turned.F sc_turned fun cdv A outer s H E hr => by
  have sc := sc_turned
  have tk : Takes (cxOf (L2.CX P w) P w K mg base ["verdict"] "turned" (defScope (topS 10)) D.d_turned.f cdv A outer s H E) (fun cls d _ H => E cls d H) := takes_of rfl rfl rfl rfl
  have PO : PassesOwn (model P w) (cxOf (L2.CX P w) P w K mg base ["verdict"] "turned" (defScope (topS 10)) D.d_turned.f cdv A outer s H E).A (cxOf (L2.CX P w) P w K mg base ["verdict"] "turned" (defScope (topS 10)) D.d_turned.f cdv A outer s H E).env (cxOf (L2.CX P w) P w K mg base ["verdict"] "turned" (defScope (topS 10)) D.d_turned.f cdv A outer s H E).xe := passes_of rfl
  exact (ds_cons (ds_if (dt_cmp (op_eqD hr.units) op2_eq (dp_var 0) (dp_of de_str) (nomark _)) (ds_one (ds_ret de_str)) ds_nil) (ds_cons (ds_if (dt_cmp (op_eqD hr.units) op2_eq (dp_var 0) (dp_of de_str) (nomark _)) (ds_one (ds_ret de_str)) ds_nil) (ds_one (ds_retV 0))))
theorem sc_opposite : FnScope ["monitor", "verdict"] ["monitor"] (defScope (topS 14)) := ⟨rfl, rfl, rfl, by decide +kernel, rfl, by decide +kernel, by decide +kernel⟩
theorem ok_opposite (T : Txt K mg) (D : All K mg) : FnOk P w K mg base (L2.CX P w) 4 D.d_opposite.f D.d_opposite.fd ["monitor"] (spD K w mg 1 m_opposite) := fnD (k := 3) (N := ["monitor", "verdict"]) (ps := ["monitor"]) (gb := g_opposite) D.d_opposite.F sc_opposite fun cdv A outer s H E hr => by
  have sc := sc_opposite
  have tk : Takes (cxOf (L2.CX P w) P w K mg base ["monitor", "verdict"] "opposite" (defScope (topS 14)) D.d_opposite.f cdv A outer s H E) (fun cls d _ H => E cls d H) := takes_of rfl rfl rfl rfl
  have PO : PassesOwn (model P w) (cxOf (L2.CX P w) P w K mg base ["monitor", "verdict"] "opposite" (defScope (topS 14)) D.d_opposite.f cdv A outer s H E).A (cxOf (L2.CX P w) P w K mg base ["monitor", "verdict"] "opposite" (defScope (topS 14)) D.d_opposite.f cdv A outer s H E).env (cxOf (L2.CX P w) P w K mg base ["monitor", "verdict"] "opposite" (defScope (topS 14)) D.d_opposite.f cdv A outer s H E).xe := passes_of rfl
  exact (ds_one (ds_ret (de_call (ok_reduce T D) (hr.mono (by decide)) tk D.d_reduce.g D.d_reduce.F.kp D.d_reduce.b (da_cons (de_tup (da_cons (de_of (dp_ix (dp_var 0) (dp_of de_int))) (da_cons (de_of (dp_ix (dp_var 0) (dp_of de_int))) (da_cons (de_tuple T.n_tuple (dp_of (de_lc (T := (.nm 1)) rfl sc.nd (di_any (dp_ix (dp_var 0) (dp_of de_int))) (blkOk_by (own := [(PySem.Str.ofString "verdict", 1)]) (by show blkC ["monitor", "verdict"] (defScope (topS 14)) _ _ = true; decide +kernel)) (fun s H C cl fp => (pg_name (i := 1) sc.nd rfl (by first | exact .inl rfl | exact .inr rfl))) (fun s H C cl fp => dts_nil) (fun s H C cl fp => (de_call (ok_turned T D) (hr.mono (by decide)) takes0 D.d_turned.g D.d_turned.F.kp D.d_turned.b (da_cons (de_var 1) da_nil) (hn := runD_no) (hp := runD_plain)))))) (da_cons (de_of (dp_ix (dp_var 0) (dp_of de_int))) da_nil))))) da_nil) (hn := runD_no) (hp := runD_plain))))
theorem sc_met_by_both : FnScope ["left", "right"] ["left", "right"] (defScope (topS 11)) := ⟨rfl, rfl, rfl, by decide +kernel, rfl, by decide +kernel, by decide +kernel⟩
theorem ok_met_by_both (T : Txt K mg) (D : All K mg) : FnOk P w K mg base (L2.CX P w) 1 D.d_met_by_both.f D.d_met_by_both.fd ["left", "right"] (spD K w mg 2 m_met_by_both) := fnD (k := 0) (N := ["left", "right"]) (ps := ["left", "right"]) (gb := g_met_by_both) D.d_met_by_both.F sc_met_by_both fun cdv A outer s H E hr => by
  have sc := sc_met_by_both
  have tk : Takes (cxOf (L2.CX P w) P w K mg base ["left", "right"] "met_by_both" (defScope (topS 11)) D.d_met_by_both.f cdv A outer s H E) (fun cls d _ H => E cls d H) := takes_of rfl rfl rfl rfl
  have PO : PassesOwn (model P w) (cxOf (L2.CX P w) P w K mg base ["left", "right"] "met_by_both" (defScope (topS 11)) D.d_met_by_both.f cdv A outer s H E).A (cxOf (L2.CX P w) P w K mg base ["left", "right"] "met_by_both" (defScope (topS 11)) D.d_met_by_both.f cdv A outer s H E).env (cxOf (L2.CX P w) P w K mg base ["left", "right"] "met_by_both" (defScope (topS 11)) D.d_met_by_both.f cdv A outer s H E).xe := passes_of rfl
  exact (ds_cons (ds_if (PW.pt (dw_or (dt_cmp (op_eqD hr.units) op2_eq (dp_var 0) (dp_of de_str) (nomark _)) (dw_or1 (dt_cmp (op_eqD hr.units) op2_eq (dp_var 1) (dp_of de_str) (nomark _))))) (ds_one (ds_ret de_str)) ds_nil) (ds_cons (ds_if (PW.pt (dw_or (dt_cmp (op_eqD hr.units) op2_eq (dp_var 0) (dp_of de_str) (nomark _)) (dw_or1 (dt_cmp (op_eqD hr.units) op2_eq (dp_var 1) (dp_of de_str) (nomark _))))) (ds_one (ds_ret de_str)) ds_nil) (ds_cons (ds_if (PW.pt (dw_and (dt_cmp (op_eqD hr.units) op2_eq (dp_var 0) (dp_of de_str) (nomark _)) (dw_and1 (dt_cmp (op_eqD hr.units) op2_eq (dp_var 1) (dp_of de_str) (nomark _))))) (ds_one (ds_ret de_str)) ds_nil) (ds_one (ds_ret de_str)))))
theorem sc_met_by_one : FnScope ["left", "right"] ["left", "right"] (defScope (topS 12)) := ⟨rfl, rfl, rfl, by decide +kernel, rfl, by decide +kernel, by decide +kernel⟩
theorem ok_met_by_one (T : Txt K mg) (D : All K mg) : FnOk P w K mg base (L2.CX P w) 2 D.d_met_by_one.f D.d_met_by_one.fd ["left", "right"] (spD K w mg 2 m_met_by_one) := fnD (k := 1) (N := ["left", "right"]) (ps := ["left", "right"]) (gb := g_met_by_one) D.d_met_by_one.F sc_met_by_one fun cdv A outer s H E hr => by
  have sc := sc_met_by_one
  have tk : Takes (cxOf (L2.CX P w) P w K mg base ["left", "right"] "met_by_one" (defScope (topS 12)) D.d_met_by_one.f cdv A outer s H E) (fun cls d _ H => E cls d H) := takes_of rfl rfl rfl rfl
  have PO : PassesOwn (model P w) (cxOf (L2.CX P w) P w K mg base ["left", "right"] "met_by_one" (defScope (topS 12)) D.d_met_by_one.f cdv A outer s H E).A (cxOf (L2.CX P w) P w K mg base ["left", "right"] "met_by_one" (defScope (topS 12)) D.d_met_by_one.f cdv A outer s H E).env (cxOf (L2.CX P w) P w K mg base ["left", "right"] "met_by_one" (defScope (topS 12)) D.d_met_by_one.f cdv A outer s H E).xe := passes_of rfl
  exact (ds_one (ds_ret (de_call (ok_turned T D) (hr.mono (by decide)) tk D.d_turned.g D.d_turned.F.kp D.d_turned.b (da_cons (de_call (ok_met_by_both T D) (hr.mono (by decide)) tk D.d_met_by_both.g D.d_met_by_both.F.kp D.d_met_by_both.b (da_cons (de_call (ok_turned T D) (hr.mono (by decide)) tk D.d_turned.g D.d_turned.F.kp D.d_turned.b (da_cons (de_var 0) da_nil) (hn := runD_no) (hp := runD_plain)) (da_cons (de_call (ok_turned T D) (hr.mono (by decide)) tk D.d_turned.g D.d_turned.F.kp D.d_turned.b (da_cons (de_var 1) da_nil) (hn := runD_no) (hp := runD_plain)) da_nil)) (hn := runD_no) (hp := runD_plain)) da_nil) (hn := runD_no) (hp := runD_plain))))
theorem sc_told_by_one : FnScope ["left", "right"] ["left", "right"] (defScope (topS 13)) := ⟨rfl, rfl, rfl, by decide +kernel, rfl, by decide +kernel, by decide +kernel⟩
theorem ok_told_by_one (T : Txt K mg) (D : All K mg) : FnOk P w K mg base (L2.CX P w) 1 D.d_told_by_one.f D.d_told_by_one.fd ["left", "right"] (spD K w mg 2 m_told_by_one) := fnD (k := 0) (N := ["left", "right"]) (ps := ["left", "right"]) (gb := g_told_by_one) D.d_told_by_one.F sc_told_by_one fun cdv A outer s H E hr => by
  have sc := sc_told_by_one
  have tk : Takes (cxOf (L2.CX P w) P w K mg base ["left", "right"] "told_by_one" (defScope (topS 13)) D.d_told_by_one.f cdv A outer s H E) (fun cls d _ H => E cls d H) := takes_of rfl rfl rfl rfl
  have PO : PassesOwn (model P w) (cxOf (L2.CX P w) P w K mg base ["left", "right"] "told_by_one" (defScope (topS 13)) D.d_told_by_one.f cdv A outer s H E).A (cxOf (L2.CX P w) P w K mg base ["left", "right"] "told_by_one" (defScope (topS 13)) D.d_told_by_one.f cdv A outer s H E).env (cxOf (L2.CX P w) P w K mg base ["left", "right"] "told_by_one" (defScope (topS 13)) D.d_told_by_one.f cdv A outer s H E).xe := passes_of rfl
  exact (ds_cons (ds_if (PW.pt (dw_or (dt_cmp (op_eqD hr.units) op2_eq (dp_var 0) (dp_of de_str) (nomark _)) (dw_or1 (dt_cmp (op_eqD hr.units) op2_eq (dp_var 1) (dp_of de_str) (nomark _))))) (ds_one (ds_ret de_str)) ds_nil) (ds_cons (ds_if (dt_cmp (op_eqD hr.units) op2_eq (dp_var 0) (dp_of de_str) (nomark _)) (ds_one (ds_retV 1)) ds_nil) (ds_cons (ds_if (PW.pt (dw_or (dt_cmp (op_eqD hr.units) op2_eq (dp_var 1) (dp_of de_str) (nomark _)) (dw_or1 (dt_cmp (op_eqD hr.units) op2_eq (dp_var 0) (dp_var 1) (nomark _))))) (ds_one (ds_retV 0)) ds_nil) (ds_one (ds_ret de_str)))))
theorem sc_check_lists : FnScope ["monitor", "other"] ["monitor", "other"] (defScope (topS 9)) := ⟨rfl, rfl, rfl, by decide +kernel, rfl, by decide +kernel, by decide +kernel⟩
theorem ok_check_lists (T : Txt K mg) (D : All K mg) : FnOk P w K mg base (L2.CX P w) 3 D.d_check_lists.f D.d_check_lists.fd ["monitor", "other"] (spD K w mg 2 m_check_lists) := fnD (k := 2) (N := ["monitor", "other"]) (ps := ["monitor", "other"]) (gb := g_check_lists) D.d_check_lists.F sc_check_lists fun cdv A outer s H E hr => by
  have sc := sc_check_lists
  have tk : Takes (cxOf (L2.CX P w) P w K mg base ["monitor", "other"] "check_lists" (defScope (topS 9)) D.d_check_lists.f cdv A outer s H E) (fun cls d _ H => E cls d H) := takes_of rfl rfl rfl rfl
  have PO : PassesOwn (model P w) (cxOf (L2.CX P w) P w K mg base ["monitor", "other"] "check_lists" (defScope (topS 9)) D.d_check_lists.f cdv A outer s H E).A (cxOf (L2.CX P w) P w K mg base ["monitor", "other"] "check_lists" (defScope (topS 9)) D.d_check_lists.f cdv A outer s H E).env (cxOf (L2.CX P w) P w K mg base ["monitor", "other"] "check_lists" (defScope (topS 9)) D.d_check_lists.f cdv A outer s H E).xe := passes_of rfl
  exact (ds_one (ds_if (dt_cmp (op_neD hr.units) op2_ne (dp_of (de_tuple T.n_tuple (dp_ix (dp_var 0) (dp_of de_int)))) (dp_of (de_tuple T.n_tuple (dp_ix (dp_var 1) (dp_of de_int)))) (nomark _)) (ds_one (ds_raise0 T.x_OtherReadings tk rfl)) ds_nil))
theorem sc_pair_nodes : FnScope ["monitor", "other", "pairs", "numbers", "edges", "row", "place", "node", "twin", "later"] ["monitor", "other"] (defScope (topS 15)) := ⟨rfl, rfl, rfl, by decide +kernel, rfl, by decide +kernel, by decide +kernel⟩
theorem ok_pair_nodes (T : Txt K mg) (D : All K mg) : FnOk P w K mg base (L2.CX P w) 4 D.d_pair_nodes.f D.d_pair_nodes.fd ["monitor", "other"] (spD K w mg 2 m_pair_nodes) := fnD (k := 3) (N := ["monitor", "other", "pairs", "numbers", "edges", "row", "place", "node", "twin", "later"]) (ps := ["monitor", "other"]) (gb := g_pair_nodes) D.d_pair_nodes.F sc_pair_nodes fun cdv A outer s H E hr => by
  have sc := sc_pair_nodes
  have tk : Takes (cxOf (L2.CX P w) P w K mg base ["monitor", "other", "pairs", "numbers", "edges", "row", "place", "node", "twin", "later"] "pair_nodes" (defScope (topS 15)) D.d_pair_nodes.f cdv A outer s H E) (fun cls d _ H => E cls d H) := takes_of rfl rfl rfl rfl
  have PO : PassesOwn (model P w) (cxOf (L2.CX P w) P w K mg base ["monitor", "other", "pairs", "numbers", "edges", "row", "place", "node", "twin", "later"] "pair_nodes" (defScope (topS 15)) D.d_pair_nodes.f cdv A outer s H E).A (cxOf (L2.CX P w) P w K mg base ["monitor", "other", "pairs", "numbers", "edges", "row", "place", "node", "twin", "later"] "pair_nodes" (defScope (topS 15)) D.d_pair_nodes.f cdv A outer s H E).env (cxOf (L2.CX P w) P w K mg base ["monitor", "other", "pairs", "numbers", "edges", "row", "place", "node", "twin", "later"] "pair_nodes" (defScope (topS 15)) D.d_pair_nodes.f cdv A outer s H E).xe := passes_of rfl
  exact (ds_cons (ds_expr (de_call (ok_check_lists T D) (hr.mono (by decide)) tk D.d_check_lists.g D.d_check_lists.F.kp D.d_check_lists.b (da_cons (de_var 0) (da_cons (de_var 1) da_nil)) (hn := runD_no) (hp := runD_plain))) (ds_cons (ds_set (i := 2) sc.nd (de_lst (da_cons (de_tup (da_cons (de_of (dp_ix (dp_var 0) (dp_of de_int))) (da_cons (de_of (dp_ix (dp_var 1) (dp_of de_int))) da_nil))) da_nil))) (ds_cons (ds_set (i := 3) sc.nd (de_d1 (units65 hr) (de_of (dp_ix (dp_var 2) (dp_of de_int))) de_int)) (ds_cons (ds_set (i := 4) sc.nd (de_lst da_nil)) (ds_cons (ds_while 1000000 PO (dt_cmp op_lt op2_intB (dp_of (de_len T.n_len (dp_var 4))) (dp_of (de_len T.n_len (dp_var 2))) (nomark _)) (ds_cons (ds_unp (is := [7, 8]) (pg_tup rfl (pgs_cons (pg_name (i := 7) sc.nd rfl (by first | exact .inl rfl | exact .inr rfl)) (pgs_cons (pg_name (i := 8) sc.nd rfl (by first | exact .inl rfl | exact .inr rfl)) pgs_nil))) (de_of (dp_ix (dp_var 2) (dp_of (de_len T.n_len (dp_var 4)))))) (ds_cons (ds_set (i := 5) sc.nd (de_lst da_nil)) (ds_cons (ds_for (T := (.nm 6)) PO rfl (df_rng1 T.n_range (de_len T.n_len (dp_ix (dp_var 0) (dp_of de_int)))) (pg_name (i := 6) sc.nd rfl (by first | exact .inl rfl | exact .inr rfl)) (ds_cons (ds_set (i := 9) sc.nd (de_tup (da_cons (de_of (dp_ix (dp_ix (dp_ix (dp_var 0) (dp_of de_int)) (dp_var 7)) (dp_var 6))) (da_cons (de_of (dp_ix (dp_ix (dp_ix (dp_var 1) (dp_of de_int)) (dp_var 8)) (dp_var 6))) da_nil)))) (ds_cons (ds_if (dt_cmp (opr_dNotIn (units65 hr)) op2_dNotIn (dp_var 9) (dp_var 3) (by with_unfolding_all rfl)) (ds_cons (ds_dset 3 (units65 hr) (pv 3) (de_var 9) (de_len T.n_len (dp_var 2))) (ds_one (ds_app 2 (pe_bm PySem.F.plainAttrs_list PySem.F.slot_list_append PySem.F.type_list_append mt_append (pv 2) (pa_cons (de_var 9) pa_nil))))) ds_nil) (ds_one (ds_app 5 (pe_bm PySem.F.plainAttrs_list PySem.F.slot_list_append PySem.F.type_list_append mt_append (pv 5) (pa_cons (de_dget (units65 hr) (dp_var 3) (dp_var 9)) pa_nil))))))) (ds_one (ds_app 4 (pe_bm PySem.F.plainAttrs_list PySem.F.slot_list_append PySem.F.type_list_append mt_append (pv 4) (pa_cons (de_tuple T.n_tuple (dp_var 5)) pa_nil)))))))) (ds_one (ds_frz [2, 4] (ds_ret (de_tup (da_cons (de_var 2) (da_cons (de_var 4) da_nil)))))))))))
theorem sc_join : FnScope ["monitor", "other", "kind", "verdicts", "pairs", "edges", "node", "twin", "left", "right"] ["monitor", "other", "kind"] (defScope (topS 16)) := ⟨rfl, rfl, rfl, by decide +kernel, rfl, by decide +kernel, by decide +kernel⟩
theorem ok_join (T : Txt K mg) (D : All K mg) : FnOk P w K mg base (L2.CX P w) 5 D.d_join.f D.d_join.fd ["monitor", "other", "kind"] (spD K w mg 3 m_join) := fnD (k := 4) (N := ["monitor", "other", "kind", "verdicts", "pairs", "edges", "node", "twin", "left", "right"]) (ps := ["monitor", "other", "kind"]) (gb := g_join) D.d_join.F sc_join fun cdv A outer s H E hr => by
  have sc := sc_join
  have tk : Takes (cxOf (L2.CX P w) P w K mg base ["monitor", "other", "kind", "verdicts", "pairs", "edges", "node", "twin", "left", "right"] "join" (defScope (topS 16)) D.d_join.f cdv A outer s H E) (fun cls d _ H => E cls d H) := takes_of rfl rfl rfl rfl
  have PO : PassesOwn (model P w) (cxOf (L2.CX P w) P w K mg base ["monitor", "other", "kind", "verdicts", "pairs", "edges", "node", "twin", "left", "right"] "join" (defScope (topS 16)) D.d_join.f cdv A outer s H E).A (cxOf (L2.CX P w) P w K mg base ["monitor", "other", "kind", "verdicts", "pairs", "edges", "node", "twin", "left", "right"] "join" (defScope (topS 16)) D.d_join.f cdv A outer s H E).env (cxOf (L2.CX P w) P w K mg base ["monitor", "other", "kind", "verdicts", "pairs", "edges", "node", "twin", "left", "right"] "join" (defScope (topS 16)) D.d_join.f cdv A outer s H E).xe := passes_of rfl
  exact (ds_cons (ds_unp (is := [4, 5]) (pg_tup rfl (pgs_cons (pg_name (i := 4) sc.nd rfl (by first | exact .inl rfl | exact .inr rfl)) (pgs_cons (pg_name (i := 5) sc.nd rfl (by first | exact .inl rfl | exact .inr rfl)) pgs_nil))) (de_call (ok_pair_nodes T D) (hr.mono (by decide)) tk D.d_pair_nodes.g D.d_pair_nodes.F.kp D.d_pair_nodes.b (da_cons (de_var 0) (da_cons (de_var 1) da_nil)) (hn := runD_no) (hp := runD_plain))) (ds_cons (ds_set (i := 3) sc.nd (de_lst da_nil)) (ds_cons (ds_for (T := (.tp [6, 7])) PO rfl (df_any (de_var 4)) (pg_tup rfl (pgs_cons (pg_name (i := 6) sc.nd rfl (by first | exact .inl rfl | exact .inr rfl)) (pgs_cons (pg_name (i := 7) sc.nd rfl (by first | exact .inl rfl | exact .inr rfl)) pgs_nil))) (ds_cons (ds_set (i := 8) sc.nd (de_of (dp_ix (dp_ix (dp_var 0) (dp_of de_int)) (dp_var 6)))) (ds_cons (ds_set (i := 9) sc.nd (de_of (dp_ix (dp_ix (dp_var 1) (dp_of de_int)) (dp_var 7)))) (ds_one (ds_if (dt_cmp (op_eqD hr.units) op2_eq (dp_var 2) (dp_of de_str) (nomark _)) (ds_one (ds_app 3 (pe_bm PySem.F.plainAttrs_list PySem.F.slot_list_append PySem.F.type_list_append mt_append (pv 3) (pa_cons (de_call (ok_met_by_both T D) (hr.mono (by decide)) tk D.d_met_by_both.g D.d_met_by_both.F.kp D.d_met_by_both.b (da_cons (de_var 8) (da_cons (de_var 9) da_nil)) (hn := runD_no) (hp := runD_plain)) pa_nil)))) (ds_one (ds_if (dt_cmp (op_eqD hr.units) op2_eq (dp_var 2) (dp_of de_str) (nomark _)) (ds_one (ds_app 3 (pe_bm PySem.F.plainAttrs_list PySem.F.slot_list_append PySem.F.type_list_append mt_append (pv 3) (pa_cons (de_call (ok_met_by_one T D) (hr.mono (by decide)) tk D.d_met_by_one.g D.d_met_by_one.F.kp D.d_met_by_one.b (da_cons (de_var 8) (da_cons (de_var 9) da_nil)) (hn := runD_no) (hp := runD_plain)) pa_nil)))) (ds_one (ds_app 3 (pe_bm PySem.F.plainAttrs_list PySem.F.slot_list_append PySem.F.type_list_append mt_append (pv 3) (pa_cons (de_call (ok_told_by_one T D) (hr.mono (by decide)) tk D.d_told_by_one.g D.d_told_by_one.F.kp D.d_told_by_one.b (da_cons (de_var 8) (da_cons (de_var 9) da_nil)) (hn := runD_no) (hp := runD_plain)) pa_nil))))))))))) (ds_one (ds_ret (de_call (ok_reduce T D) (hr.mono (by decide)) tk D.d_reduce.g D.d_reduce.F.kp D.d_reduce.b (da_cons (de_tup (da_cons (de_tuple T.n_tuple (dp_ix (dp_var 0) (dp_of de_int))) (da_cons de_int (da_cons (de_tuple T.n_tuple (dp_var 3)) (da_cons (de_tuple T.n_tuple (dp_var 5)) da_nil))))) da_nil) (hn := runD_no) (hp := runD_plain)))))))
theorem sc_join_all : FnScope ["monitors", "kind", "found", "other"] ["monitors", "kind"] (defScope (topS 17)) := ⟨rfl, rfl, rfl, by decide +kernel, rfl, by decide +kernel, by decide +kernel⟩
theorem ok_join_all (T : Txt K mg) (D : All K mg) : FnOk P w K mg base (L2.CX P w) 6 D.d_join_all.f D.d_join_all.fd ["monitors", "kind"] (spD K w mg 2 m_join_all) := fnD (k := 5) (N := ["monitors", "kind", "found", "other"]) (ps := ["monitors", "kind"]) (gb := g_join_all) D.d_join_all.F sc_join_all fun cdv A outer s H E hr => by
  have sc := sc_join_all
  have tk : Takes (cxOf (L2.CX P w) P w K mg base ["monitors", "kind", "found", "other"] "join_all" (defScope (topS 17)) D.d_join_all.f cdv A outer s H E) (fun cls d _ H => E cls d H) := takes_of rfl rfl rfl rfl
  have PO : PassesOwn (model P w) (cxOf (L2.CX P w) P w K mg base ["monitors", "kind", "found", "other"] "join_all" (defScope (topS 17)) D.d_join_all.f cdv A outer s H E).A (cxOf (L2.CX P w) P w K mg base ["monitors", "kind", "found", "other"] "join_all" (defScope (topS 17)) D.d_join_all.f cdv A outer s H E).env (cxOf (L2.CX P w) P w K mg base ["monitors", "kind", "found", "other"] "join_all" (defScope (topS 17)) D.d_join_all.f cdv A outer s H E).xe := passes_of rfl
  exact (ds_cons (ds_set (i := 2) sc.nd (de_of (dp_ix (dp_var 0) (dp_of de_int)))) (ds_cons (ds_for (T := (.nm 3)) PO rfl (df_any (de_sliceA (dp_var 0) (dpo_some de_int) dpo_none)) (pg_name (i := 3) sc.nd rfl (by first | exact .inl rfl | exact .inr rfl)) (ds_one (ds_set (i := 2) sc.nd (de_call (ok_join T D) (hr.mono (by decide)) tk D.d_join.g D.d_join.F.kp D.d_join.b (da_cons (de_var 2) (da_cons (de_var 3) (da_cons (de_var 1) da_nil))) (hn := runD_no) (hp := runD_plain))))) (ds_one (ds_ret (de_call (ok_reduce T D) (hr.mono (by decide)) tk D.d_reduce.g D.d_reduce.F.kp D.d_reduce.b (da_cons (de_var 2) da_nil) (hn := runD_no) (hp := runD_plain))))))
theorem sc_law_cell : FnScope ["script", "k"] ["script", "k"] (defScope (topS 19)) := ⟨rfl, rfl, rfl, by decide +kernel, rfl, by decide +kernel, by decide +kernel⟩
theorem ok_law_cell (T : Txt K mg) (D : All K mg) : FnOk P w K mg base (L2.CX P w) 1 D.d_law_cell.f D.d_law_cell.fd ["script", "k"] (spD K w mg 2 m_law_cell) := fnD (k := 0) (N := ["script", "k"]) (ps := ["script", "k"]) (gb := g_law_cell) D.d_law_cell.F sc_law_cell fun cdv A outer s H E hr => by
  have sc := sc_law_cell
  have tk : Takes (cxOf (L2.CX P w) P w K mg base ["script", "k"] "_law_cell" (defScope (topS 19)) D.d_law_cell.f cdv A outer s H E) (fun cls d _ H => E cls d H) := takes_of rfl rfl rfl rfl
  have PO : PassesOwn (model P w) (cxOf (L2.CX P w) P w K mg base ["script", "k"] "_law_cell" (defScope (topS 19)) D.d_law_cell.f cdv A outer s H E).A (cxOf (L2.CX P w) P w K mg base ["script", "k"] "_law_cell" (defScope (topS 19)) D.d_law_cell.f cdv A outer s H E).env (cxOf (L2.CX P w) P w K mg base ["script", "k"] "_law_cell" (defScope (topS 19)) D.d_law_cell.f cdv A outer s H E).xe := passes_of rfl
  exact (ds_cons (ds_if (dt_cmp op_lt op2_intB (dp_var 1) (dp_of (de_len T.n_len (dp_var 0))) (nomark _)) (ds_one (ds_ret (de_of (dp_ix (dp_var 0) (dp_var 1))))) ds_nil) (ds_one (ds_ret de_int)))
theorem sc_law_draw : FnScope ["script", "k", "sizes", "cell", "drawn", "mixed", "j", "size"] ["script", "k", "sizes"] (defScope (topS 20)) := ⟨rfl, rfl, rfl, by decide +kernel, rfl, by decide +kernel, by decide +kernel⟩
theorem ok_law_draw (T : Txt K mg) (D : All K mg) : FnOk P w K mg base (L2.CX P w) 2 D.d_law_draw.f D.d_law_draw.fd ["script", "k", "sizes"] (spD K w mg 3 m_law_draw) := fnD (k := 1) (N := ["script", "k", "sizes", "cell", "drawn", "mixed", "j", "size"]) (ps := ["script", "k", "sizes"]) (gb := g_law_draw) D.d_law_draw.F sc_law_draw fun cdv A outer s H E hr => by
  have sc := sc_law_draw
  have tk : Takes (cxOf (L2.CX P w) P w K mg base ["script", "k", "sizes", "cell", "drawn", "mixed", "j", "size"] "_law_draw" (defScope (topS 20)) D.d_law_draw.f cdv A outer s H E) (fun cls d _ H => E cls d H) := takes_of rfl rfl rfl rfl
  have PO : PassesOwn (model P w) (cxOf (L2.CX P w) P w K mg base ["script", "k", "sizes", "cell", "drawn", "mixed", "j", "size"] "_law_draw" (defScope (topS 20)) D.d_law_draw.f cdv A outer s H E).A (cxOf (L2.CX P w) P w K mg base ["script", "k", "sizes", "cell", "drawn", "mixed", "j", "size"] "_law_draw" (defScope (topS 20)) D.d_law_draw.f cdv A outer s H E).env (cxOf (L2.CX P w) P w K mg base ["script", "k", "sizes", "cell", "drawn", "mixed", "j", "size"] "_law_draw" (defScope (topS 20)) D.d_law_draw.f cdv A outer s H E).xe := passes_of rfl
  exact (ds_cons (ds_set (i := 3) sc.nd (de_call (ok_law_cell T D) (hr.mono (by decide)) tk D.d_law_cell.g D.d_law_cell.F.kp D.d_law_cell.b (da_cons (de_var 0) (da_cons (de_var 1) da_nil)) (hn := runD_no) (hp := runD_plain))) (ds_cons (ds_if (dt_cmp op_lt op2_intB (dp_var 3) (dp_of de_int) (nomark _)) (ds_one (ds_set (i := 3) sc.nd (de_un un_neg op1_neg (dp_var 3)))) ds_nil) (ds_cons (ds_set (i := 4) sc.nd (de_lst da_nil)) (ds_cons (ds_if (dt_cmp op_ge op2_intB (dp_var 3) (dp_of (de_op op_pow op2_pow (dp_of de_int) (dp_of de_int))) (nomark _)) (ds_cons (ds_set (i := 3) sc.nd (de_op op_sub (op2_intI fun _ _ => rfl) (dp_var 3) (dp_of (de_op op_pow op2_pow (dp_of de_int) (dp_of de_int))))) (ds_cons (ds_for (T := (.nm 7)) PO rfl (df_any (de_var 2)) (pg_name (i := 7) sc.nd rfl (by first | exact .inl rfl | exact .inr rfl)) (ds_cons (ds_app 4 (pe_bm PySem.F.plainAttrs_list PySem.F.slot_list_append PySem.F.type_list_append mt_append (pv 4) (pa_cons (de_op op_mod op2_mod (dp_var 3) (dp_var 7)) pa_nil))) (ds_one (ds_set (i := 3) sc.nd (de_op op_fdiv op2_div (dp_var 3) (dp_var 7)))))) (ds_one (ds_retV 4)))) ds_nil) (ds_cons (ds_set (i := 5) sc.nd (de_op op_mod op2_mod (dp_of (de_op opr_add op2_add (dp_of (de_op opr_add op2_add (dp_var 3) (dp_of de_int))) (dp_of (de_op opr_mul op2_mul (dp_of de_int) (dp_var 1))))) (dp_of de_int))) (ds_cons (ds_for (T := (.nm 6)) PO rfl (df_rng1 T.n_range (de_len T.n_len (dp_var 2))) (pg_name (i := 6) sc.nd rfl (by first | exact .inl rfl | exact .inr rfl)) (ds_cons (ds_set (i := 5) sc.nd (de_op op_mod op2_mod (dp_of (de_op opr_add op2_add (dp_of (de_op opr_add op2_add (dp_of (de_op opr_mul op2_mul (dp_var 5) (dp_of de_int))) (dp_of de_int))) (dp_var 6))) (dp_of de_int))) (ds_cons (ds_set (i := 5) sc.nd (de_op op_mod op2_mod (dp_of (de_op opr_add op2_add (dp_of (de_op opr_mul op2_mul (dp_var 5) (dp_of de_int))) (dp_of de_int))) (dp_of de_int))) (ds_one (ds_app 4 (pe_bm PySem.F.plainAttrs_list PySem.F.slot_list_append PySem.F.type_list_append mt_append (pv 4) (pa_cons (de_op op_mod op2_mod (dp_of (de_op op_fdiv op2_div (dp_var 5) (dp_of de_int))) (dp_ix (dp_var 2) (dp_var 6))) pa_nil))))))) (ds_one (ds_retV 4))))))))
theorem sc_law_some_monitor : FnScope ["script", "k", "many", "nodes", "readings", "count", "digits", "verdicts", "edges", "node", "first", "kind", "row", "j"] ["script", "k", "many", "nodes"] (defScope (topS 21)) := ⟨rfl, rfl, rfl, by decide +kernel, rfl, by decide +kernel, by decide +kernel⟩
theorem ok_law_some_monitor (T : Txt K mg) (D : All K mg) : FnOk P w K mg base (L2.CX P w) 3 D.d_law_some_monitor.f D.d_law_some_monitor.fd ["script", "k", "many", "nodes"] (spD K w mg 4 m_law_some_monitor) := fnD (k := 2) (N := ["script", "k", "many", "nodes", "readings", "count", "digits", "verdicts", "edges", "node", "first", "kind", "row", "j"]) (ps := ["script", "k", "many", "nodes"]) (gb := g_law_some_monitor) D.d_law_some_monitor.F sc_law_some_monitor fun cdv A outer s H E hr => by
  have sc := sc_law_some_monitor
  have tk : Takes (cxOf (L2.CX P w) P w K mg base ["script", "k", "many", "nodes", "readings", "count", "digits", "verdicts", "edges", "node", "first", "kind", "row", "j"] "_law_some_monitor" (defScope (topS 21)) D.d_law_some_monitor.f cdv A outer s H E) (fun cls d _ H => E cls d H) := takes_of rfl rfl rfl rfl
  have PO : PassesOwn (model P w) (cxOf (L2.CX P w) P w K mg base ["script", "k", "many", "nodes", "readings", "count", "digits", "verdicts", "edges", "node", "first", "kind", "row", "j"] "_law_some_monitor" (defScope (topS 21)) D.d_law_some_monitor.f cdv A outer s H E).A (cxOf (L2.CX P w) P w K mg base ["script", "k", "many", "nodes", "readings", "count", "digits", "verdicts", "edges", "node", "first", "kind", "row", "j"] "_law_some_monitor" (defScope (topS 21)) D.d_law_some_monitor.f cdv A outer s H E).env (cxOf (L2.CX P w) P w K mg base ["script", "k", "many", "nodes", "readings", "count", "digits", "verdicts", "edges", "node", "first", "kind", "row", "j"] "_law_some_monitor" (defScope (topS 21)) D.d_law_some_monitor.f cdv A outer s H E).xe := passes_of rfl
  exact (ds_cons (ds_set (i := 4) sc.nd (de_sliceA (dp_of (de_lst (da_cons (de_tup (da_cons de_int da_nil)) (da_cons (de_tup (da_cons de_non da_nil)) (da_cons (de_tup (da_cons de_int da_nil)) (da_cons (de_tup da_nil) (da_cons (de_tup (da_cons de_int (da_cons de_int da_nil))) (da_cons (de_tup (da_cons (de_un un_neg op1_neg (dp_of de_int)) (da_cons de_non da_nil))) da_nil)))))))) dpo_none (dpo_some (de_var 2)))) (ds_cons (ds_set (i := 5) sc.nd (de_op opr_add op2_add (dp_of de_int) (dp_ix (dp_of (de_call (ok_law_draw T D) (hr.mono (by decide)) tk D.d_law_draw.g D.d_law_draw.F.kp D.d_law_draw.b (da_cons (de_var 0) (da_cons (de_var 1) (da_cons (de_lst (da_cons (de_var 3) da_nil)) da_nil))) (hn := runD_no) (hp := runD_plain))) (dp_of de_int)))) (ds_cons (ds_set (i := 6) sc.nd (de_call (ok_law_draw T D) (hr.mono (by decide)) tk D.d_law_draw.g D.d_law_draw.F.kp D.d_law_draw.b (da_cons (de_var 0) (da_cons (de_op opr_add op2_add (dp_var 1) (dp_of de_int)) (da_cons (de_op opr_mul op2_mul (dp_of (de_lst (da_cons de_int da_nil))) (dp_of de_int)) da_nil))) (hn := runD_no) (hp := runD_plain))) (ds_cons (ds_set (i := 7) sc.nd (de_lst da_nil)) (ds_cons (ds_set (i := 8) sc.nd (de_lst da_nil)) (ds_cons (ds_for (T := (.nm 9)) PO rfl (df_rng1 T.n_range (de_var 5)) (pg_name (i := 9) sc.nd rfl (by first | exact .inl rfl | exact .inr rfl)) (ds_cons (ds_set (i := 11) sc.nd (de_of (dp_ix (dp_var 6) (dp_of (de_op op_mod op2_mod (dp_var 9) (dp_of de_int)))))) (ds_cons (ds_app 7 (pe_bm PySem.F.plainAttrs_list PySem.F.slot_list_append PySem.F.type_list_append mt_append (pv 7) (pa_cons (de_of (dp_ix (dp_of (de_lst (da_cons de_str (da_cons de_str (da_cons de_str (da_cons de_str da_nil)))))) (dp_of (de_op op_mod op2_mod (dp_of (de_op opr_add op2_add (dp_var 11) (dp_of (de_op op_fdiv op2_div (dp_var 9) (dp_of de_int))))) (dp_of (de_op opr_add op2_add (dp_of de_int) (dp_of (de_op op_mod op2_mod (dp_var 11) (dp_of de_int))))))))) pa_nil))) (ds_cons (ds_set (i := 12) sc.nd (de_lst da_nil)) (ds_cons (ds_for (T := (.nm 13)) PO rfl (df_rng1 T.n_range (de_var 2)) (pg_name (i := 13) sc.nd rfl (by first | exact .inl rfl | exact .inr rfl)) (ds_one (ds_app 12 (pe_bm PySem.F.plainAttrs_list PySem.F.slot_list_append PySem.F.type_list_append mt_append (pv 12) (pa_cons (de_op op_mod op2_mod (dp_of (de_op opr_add op2_add (dp_of (de_op opr_mul op2_mul (dp_ix (dp_var 6) (dp_of (de_op op_mod op2_mod (dp_of (de_op opr_add op2_add (dp_of (de_op opr_add op2_add (dp_of (de_op opr_mul op2_mul (dp_var 9) (dp_var 2))) (dp_var 13))) (dp_of de_int))) (dp_of de_int)))) (dp_of (de_op opr_add op2_add (dp_of de_int) (dp_of (de_op op_fdiv op2_div (dp_var 9) (dp_of de_int))))))) (dp_var 13))) (dp_var 5)) pa_nil))))) (ds_one (ds_app 8 (pe_bm PySem.F.plainAttrs_list PySem.F.slot_list_append PySem.F.type_list_append mt_append (pv 8) (pa_cons (de_tuple T.n_tuple (dp_var 12)) pa_nil))))))))) (ds_cons (ds_set (i := 10) sc.nd (de_of (dp_ix (dp_of (de_call (ok_law_draw T D) (hr.mono (by decide)) tk D.d_law_draw.g D.d_law_draw.F.kp D.d_law_draw.b (da_cons (de_var 0) (da_cons (de_op opr_add op2_add (dp_var 1) (dp_of de_int)) (da_cons (de_lst (da_cons (de_var 5) da_nil)) da_nil))) (hn := runD_no) (hp := runD_plain))) (dp_of de_int)))) (ds_one (ds_ret (de_tup (da_cons (de_tuple T.n_tuple (dp_var 4)) (da_cons (de_var 10) (da_cons (de_tuple T.n_tuple (dp_var 7)) (da_cons (de_tuple T.n_tuple (dp_var 8)) da_nil))))))))))))))
theorem sc_law_two_monitors : FnScope ["script", "many", "left", "right", "head", "verdicts"] ["script"] (defScope (topS 22)) := ⟨rfl, rfl, rfl, by decide +kernel, rfl, by decide +kernel, by decide +kernel⟩
theorem ok_law_two_monitors (T : Txt K mg) (D : All K mg) : FnOk P w K mg base (L2.CX P w) 4 D.d_law_two_monitors.f D.d_law_two_monitors.fd ["script"] (spD K w mg 1 m_law_two_monitors) := fnD (k := 3) (N := ["script", "many", "left", "right", "head", "verdicts"]) (ps := ["script"]) (gb := g_law_two_monitors) D.d_law_two_monitors.F sc_law_two_monitors fun cdv A outer s H E hr => by
  have sc := sc_law_two_monitors
  have tk : Takes (cxOf (L2.CX P w) P w K mg base ["script", "many", "left", "right", "head", "verdicts"] "_law_two_monitors" (defScope (topS 22)) D.d_law_two_monitors.f cdv A outer s H E) (fun cls d _ H => E cls d H) := takes_of rfl rfl rfl rfl
  have PO : PassesOwn (model P w) (cxOf (L2.CX P w) P w K mg base ["script", "many", "left", "right", "head", "verdicts"] "_law_two_monitors" (defScope (topS 22)) D.d_law_two_monitors.f cdv A outer s H E).A (cxOf (L2.CX P w) P w K mg base ["script", "many", "left", "right", "head", "verdicts"] "_law_two_monitors" (defScope (topS 22)) D.d_law_two_monitors.f cdv A outer s H E).env (cxOf (L2.CX P w) P w K mg base ["script", "many", "left", "right", "head", "verdicts"] "_law_two_monitors" (defScope (topS 22)) D.d_law_two_monitors.f cdv A outer s H E).xe := passes_of rfl
  exact (ds_cons (ds_set (i := 1) sc.nd (de_op opr_add op2_add (dp_of de_int) (dp_ix (dp_of (de_call (ok_law_draw T D) (hr.mono (by decide)) tk D.d_law_draw.g D.d_law_draw.F.kp D.d_law_draw.b (da_cons (de_var 0) (da_cons de_int (da_cons (de_lst (da_cons de_int da_nil)) da_nil))) (hn := runD_no) (hp := runD_plain))) (dp_of de_int)))) (ds_cons (ds_set (i := 2) sc.nd (de_call (ok_law_some_monitor T D) (hr.mono (by decide)) tk D.d_law_some_monitor.g D.d_law_some_monitor.F.kp D.d_law_some_monitor.b (da_cons (de_var 0) (da_cons de_int (da_cons (de_var 1) (da_cons de_int da_nil)))) (hn := runD_no) (hp := runD_plain))) (ds_cons (ds_set (i := 3) sc.nd (de_call (ok_law_some_monitor T D) (hr.mono (by decide)) tk D.d_law_some_monitor.g D.d_law_some_monitor.F.kp D.d_law_some_monitor.b (da_cons (de_var 0) (da_cons de_int (da_cons (de_var 1) (da_cons de_int da_nil)))) (hn := runD_no) (hp := runD_plain))) (ds_cons (ds_set (i := 4) sc.nd (de_call (ok_law_draw T D) (hr.mono (by decide)) tk D.d_law_draw.g D.d_law_draw.F.kp D.d_law_draw.b (da_cons (de_var 0) (da_cons de_int (da_cons (de_lst (da_cons de_int (da_cons de_int (da_cons de_int da_nil)))) da_nil))) (hn := runD_no) (hp := runD_plain))) (ds_cons (ds_if (dt_cmp (op_eqD hr.units) op2_eq (dp_ix (dp_var 4) (dp_of de_int)) (dp_of de_int) (nomark _)) (ds_one (ds_set (i := 3) sc.nd (de_var 2))) ds_nil) (ds_cons (ds_if (dt_cmp (op_eqD hr.units) op2_eq (dp_ix (dp_var 4) (dp_of de_int)) (dp_of de_int) (nomark _)) (ds_cons (ds_set (i := 5) sc.nd (de_list T.n_list (dp_ix (dp_var 2) (dp_of de_int)))) (ds_cons (ds_setI 5 (pg_sub (pv 5) (de_op op_mod op2_mod (dp_ix (dp_var 4) (dp_of de_int)) (dp_of (de_len T.n_len (dp_var 5)))) set_list) (de_of (dp_ix (dp_of (de_lst (da_cons de_str (da_cons de_str (da_cons de_str (da_cons de_str da_nil)))))) (dp_ix (dp_var 4) (dp_of de_int))))) (ds_one (ds_set (i := 3) sc.nd (de_tup (da_cons (de_of (dp_ix (dp_var 2) (dp_of de_int))) (da_cons (de_of (dp_ix (dp_var 2) (dp_of de_int))) (da_cons (de_tuple T.n_tuple (dp_var 5)) (da_cons (de_of (dp_ix (dp_var 2) (dp_of de_int))) da_nil))))))))) ds_nil) (ds_one (ds_ret (de_tup (da_cons (de_var 2) (da_cons (de_var 3) da_nil)))))))))))
theorem sc_law_opposed : FnScope ["verdict"] ["verdict"] (defScope (topS 24)) := ⟨rfl, rfl, rfl, by decide +kernel, rfl, by decide +kernel, by decide +kernel⟩
theorem ok_law_opposed (T : Txt K mg) (D : All K mg) : FnOk P w K mg base (L2.CX P w) 1 D.d_law_opposed.f D.d_law_opposed.fd ["verdict"] (spD K w mg 1 m_law_opposed) := fnD (k := 0) (N := ["verdict"]) (ps := ["verdict"]) (gb := g_law_opposed) D.d_law_opposed.F sc_law_opposed fun cdv A outer s H E hr => by
  have sc := sc_law_opposed
  have tk : Takes (cxOf (L2.CX P w) P w K mg base ["verdict"] "_law_opposed" (defScope (topS 24)) D.d_law_opposed.f cdv A outer s H E) (fun cls d _ H => E cls d H) := takes_of rfl rfl rfl rfl
  have PO : PassesOwn (model P w) (cxOf (L2.CX P w) P w K mg base ["verdict"] "_law_opposed" (defScope (topS 24)) D.d_law_opposed.f cdv A outer s H E).A (cxOf (L2.CX P w) P w K mg base ["verdict"] "_law_opposed" (defScope (topS 24)) D.d_law_opposed.f cdv A outer s H E).env (cxOf (L2.CX P w) P w K mg base ["verdict"] "_law_opposed" (defScope (topS 24)) D.d_law_opposed.f cdv A outer s H E).xe := passes_of rfl
  exact (ds_cons (ds_if (dt_cmp (op_eqD hr.units) op2_eq (dp_var 0) (dp_of de_str) (nomark _)) (ds_one (ds_ret de_str)) ds_nil) (ds_cons (ds_if (dt_cmp (op_eqD hr.units) op2_eq (dp_var 0) (dp_of de_str) (nomark _)) (ds_one (ds_ret de_str)) ds_nil) (ds_one (ds_retV 0))))
theorem sc_law_reach : FnScope ["monitor", "first", "found", "k", "later"] ["monitor", "first"] (defScope (topS 26)) := ⟨rfl, rfl, rfl, by decide +kernel, rfl, by decide +kernel, by decide +kernel⟩
theorem ok_law_reach (T : Txt K mg) (D : All K mg) : FnOk P w K mg base (L2.CX P w) 1 D.d_law_reach.f D.d_law_reach.fd ["monitor", "first"] (spD K w mg 2 m_law_reach) := fnD (k := 0) (N := ["monitor", "first", "found", "k", "later"]) (ps := ["monitor", "first"]) (gb := g_law_reach) D.d_law_reach.F sc_law_reach fun cdv A outer s H E hr => by
  have sc := sc_law_reach
  have tk : Takes (cxOf (L2.CX P w) P w K mg base ["monitor", "first", "found", "k", "later"] "_law_reach" (defScope (topS 26)) D.d_law_reach.f cdv A outer s H E) (fun cls d _ H => E cls d H) := takes_of rfl rfl rfl rfl
  have PO : PassesOwn (model P w) (cxOf (L2.CX P w) P w K mg base ["monitor", "first", "found", "k", "later"] "_law_reach" (defScope (topS 26)) D.d_law_reach.f cdv A outer s H E).A (cxOf (L2.CX P w) P w K mg base ["monitor", "first", "found", "k", "later"] "_law_reach" (defScope (topS 26)) D.d_law_reach.f cdv A outer s H E).env (cxOf (L2.CX P w) P w K mg base ["monitor", "first", "found", "k", "later"] "_law_reach" (defScope (topS 26)) D.d_law_reach.f cdv A outer s H E).xe := passes_of rfl
  exact (ds_cons (ds_set (i := 2) sc.nd (de_lst (da_cons (de_var 1) da_nil))) (ds_cons (ds_for (T := (.nm 3)) PO rfl (df_rng1 T.n_range (de_len T.n_len (dp_ix (dp_var 0) (dp_of de_int)))) (pg_name (i := 3) sc.nd rfl (by first | exact .inl rfl | exact .inr rfl)) (ds_one (ds_if (dt_cmp op_lt op2_intB (dp_var 3) (dp_of (de_len T.n_len (dp_var 2))) (nomark _)) (ds_one (ds_for (T := (.nm 4)) PO rfl (df_any (de_of (dp_ix (dp_ix (dp_var 0) (dp_of de_int)) (dp_ix (dp_var 2) (dp_var 3))))) (pg_name (i := 4) sc.nd rfl (by first | exact .inl rfl | exact .inr rfl)) (ds_one (ds_if (dt_cmp (opr_notIn (units65 hr)) op2_notIn (dp_var 4) (dp_var 2) (by with_unfolding_all rfl)) (ds_one (ds_app 2 (pe_bm PySem.F.plainAttrs_list PySem.F.slot_list_append PySem.F.type_list_append mt_append (pv 2) (pa_cons (de_var 4) pa_nil)))) ds_nil)))) ds_nil))) (ds_one (ds_retV 2))))
theorem sc_law_apart : FnScope ["verdicts", "edges", "count", "apart", "going", "a", "b", "k"] ["verdicts", "edges"] (defScope (topS 27)) := ⟨rfl, rfl, rfl, by decide +kernel, rfl, by decide +kernel, by decide +kernel⟩
theorem ok_law_apart (T : Txt K mg) (D : All K mg) : FnOk P w K mg base (L2.CX P w) 1 D.d_law_apart.f D.d_law_apart.fd ["verdicts", "edges"] (spD K w mg 2 m_law_apart) := fnD (k := 0) (N := ["verdicts", "edges", "count", "apart", "going", "a", "b", "k"]) (ps := ["verdicts", "edges"]) (gb := g_law_apart) D.d_law_apart.F sc_law_apart fun cdv A outer s H E hr => by
  have sc := sc_law_apart
  have tk : Takes (cxOf (L2.CX P w) P w K mg base ["verdicts", "edges", "count", "apart", "going", "a", "b", "k"] "_law_apart" (defScope (topS 27)) D.d_law_apart.f cdv A outer s H E) (fun cls d _ H => E cls d H) := takes_of rfl rfl rfl rfl
  have PO : PassesOwn (model P w) (cxOf (L2.CX P w) P w K mg base ["verdicts", "edges", "count", "apart", "going", "a", "b", "k"] "_law_apart" (defScope (topS 27)) D.d_law_apart.f cdv A outer s H E).A (cxOf (L2.CX P w) P w K mg base ["verdicts", "edges", "count", "apart", "going", "a", "b", "k"] "_law_apart" (defScope (topS 27)) D.d_law_apart.f cdv A outer s H E).env (cxOf (L2.CX P w) P w K mg base ["verdicts", "edges", "count", "apart", "going", "a", "b", "k"] "_law_apart" (defScope (topS 27)) D.d_law_apart.f cdv A outer s H E).xe := passes_of rfl
  exact (ds_cons (ds_set (i := 2) sc.nd (de_len T.n_len (dp_var 0))) (ds_cons (ds_set (i := 3) sc.nd (de_lcR (T := (.nm 5)) rfl sc.nd (di_of (df_rng1 T.n_range (de_var 2))) (blkOk_by (own := [(PySem.Str.ofString "a", 5)]) (by show blkC ["verdicts", "edges", "count", "apart", "going", "a", "b", "k"] (defScope (topS 27)) _ _ = true; decide +kernel)) (fun s H C cl fp => (pg_name (i := 5) sc.nd rfl (by first | exact .inl rfl | exact .inr rfl))) (fun s H C cl fp => dts_nil) (fun s H C cl fp => (de_lc (T := (.nm 6)) rfl sc.nd (di_of (df_rng1 T.n_range (de_var 2))) (blkOk_by (own := [(PySem.Str.ofString "b", 6)]) (by show blkC ["verdicts", "edges", "count", "apart", "going", "a", "b", "k"] (relS _ (defScope (topS 27))) _ _ = true; decide +kernel)) (fun s H C cl fp => (pg_name (i := 6) sc.nd rfl (by first | exact .inl rfl | exact .inr rfl))) (fun s H C cl fp => dts_nil) (fun s H C cl fp => (de_cmp (op_neD hr.units) op2_ne (dp_ix (dp_var 0) (dp_var 5)) (dp_ix (dp_var 0) (dp_var 6)) (nomark _))))))) (ds_cons (ds_set (i := 4) sc.nd de_bl) (ds_cons (ds_while 1000000 PO (dt_val (de_var 4)) (ds_cons (ds_set (i := 4) sc.nd de_bl) (ds_one (ds_for (T := (.nm 5)) PO rfl (df_rng1 T.n_range (de_var 2)) (pg_name (i := 5) sc.nd rfl (by first | exact .inl rfl | exact .inr rfl)) (ds_one (ds_for (T := (.nm 6)) PO rfl (df_rng1 T.n_range (de_var 2)) (pg_name (i := 6) sc.nd rfl (by first | exact .inl rfl | exact .inr rfl)) (ds_one (ds_if (PW.pt (dw_and (dt_not (dt_val (de_of (dp_ix (dp_ix (dp_var 3) (dp_var 5)) (dp_var 6))))) (dw_and1 (dt_cmp (op_neD hr.units) op2_ne (dp_of (de_lc (T := (.nm 7)) rfl sc.nd (di_of (df_rng1 T.n_range (de_len T.n_len (dp_ix (dp_var 1) (dp_var 5))))) (blkOk_by (own := [(PySem.Str.ofString "k", 7)]) (by show blkC ["verdicts", "edges", "count", "apart", "going", "a", "b", "k"] (defScope (topS 27)) _ _ = true; decide +kernel)) (fun s H C cl fp => (pg_name (i := 7) sc.nd rfl (by first | exact .inl rfl | exact .inr rfl))) (fun s H C cl fp => (dts_one (dt_val (de_of (dp_ix (dp_ix (dp_var 3) (dp_ix (dp_ix (dp_var 1) (dp_var 5)) (dp_var 7))) (dp_ix (dp_ix (dp_var 1) (dp_var 6)) (dp_var 7))))))) (fun s H C cl fp => (de_var 7)))) (dp_of (de_lst da_nil)) (nomark _))))) (ds_cons (ds_setII 3 (pg_sub (pe_ix ix_seq (pv 3) (de_var 5) (fun _ _ => rfl)) (de_var 6) set_list) de_bl) (ds_one (ds_set (i := 4) sc.nd de_bl))) ds_nil)))))))) (ds_one (ds_retV 3))))))
theorem sc_law_smallest : FnScope ["monitor", "nodes", "apart", "kept", "node", "edges", "row", "later", "other", "k"] ["monitor"] (defScope (topS 28)) := ⟨rfl, rfl, rfl, by decide +kernel, rfl, by decide +kernel, by decide +kernel⟩
theorem ok_law_smallest (T : Txt K mg) (D : All K mg) : FnOk P w K mg base (L2.CX P w) 2 D.d_law_smallest.f D.d_law_smallest.fd ["monitor"] (spD K w mg 1 m_law_smallest) := fnD (k := 1) (N := ["monitor", "nodes", "apart", "kept", "node", "edges", "row", "later", "other", "k"]) (ps := ["monitor"]) (gb := g_law_smallest) D.d_law_smallest.F sc_law_smallest fun cdv A outer s H E hr => by
  have sc := sc_law_smallest
  have tk : Takes (cxOf (L2.CX P w) P w K mg base ["monitor", "nodes", "apart", "kept", "node", "edges", "row", "later", "other", "k"] "_law_smallest" (defScope (topS 28)) D.d_law_smallest.f cdv A outer s H E) (fun cls d _ H => E cls d H) := takes_of rfl rfl rfl rfl
  have PO : PassesOwn (model P w) (cxOf (L2.CX P w) P w K mg base ["monitor", "nodes", "apart", "kept", "node", "edges", "row", "later", "other", "k"] "_law_smallest" (defScope (topS 28)) D.d_law_smallest.f cdv A outer s H E).A (cxOf (L2.CX P w) P w K mg base ["monitor", "nodes", "apart", "kept", "node", "edges", "row", "later", "other", "k"] "_law_smallest" (defScope (topS 28)) D.d_law_smallest.f cdv A outer s H E).env (cxOf (L2.CX P w) P w K mg base ["monitor", "nodes", "apart", "kept", "node", "edges", "row", "later", "other", "k"] "_law_smallest" (defScope (topS 28)) D.d_law_smallest.f cdv A outer s H E).xe := passes_of rfl
  exact (ds_cons (ds_set (i := 1) sc.nd (de_call (ok_law_reach T D) (hr.mono (by decide)) tk D.d_law_reach.g D.d_law_reach.F.kp D.d_law_reach.b (da_cons (de_var 0) (da_cons (de_of (dp_ix (dp_var 0) (dp_of de_int))) da_nil)) (hn := runD_no) (hp := runD_plain))) (ds_cons (ds_set (i := 2) sc.nd (de_call (ok_law_apart T D) (hr.mono (by decide)) tk D.d_law_apart.g D.d_law_apart.F.kp D.d_law_apart.b (da_cons (de_of (dp_ix (dp_var 0) (dp_of de_int))) (da_cons (de_of (dp_ix (dp_var 0) (dp_of de_int))) da_nil)) (hn := runD_no) (hp := runD_plain))) (ds_cons (ds_set (i := 3) sc.nd (de_lst da_nil)) (ds_cons (ds_frz [1] (ds_for (T := (.nm 4)) PO rfl (df_any (de_var 1)) (pg_name (i := 4) sc.nd rfl (by first | exact .inl rfl | exact .inr rfl)) (ds_one (ds_if (dt_cmp (op_eqD hr.units) op2_eq (dp_of (de_len T.n_len (dp_of (de_lc (T := (.nm 8)) rfl sc.nd (di_any (dp_var 3)) (blkOk_by (own := [(PySem.Str.ofString "other", 8)]) (by show blkC ["monitor", "nodes", "apart", "kept", "node", "edges", "row", "later", "other", "k"] (defScope (topS 28)) _ _ = true; decide +kernel)) (fun s H C cl fp => (pg_name (i := 8) sc.nd rfl (by first | exact .inl rfl | exact .inr rfl))) (fun s H C cl fp => (dts_one (dt_not (dt_val (de_of (dp_ix (dp_ix (dp_var 2) (dp_var 4)) (dp_var 8))))))) (fun s H C cl fp => (de_var 8)))))) (dp_of de_int) (nomark _)) (ds_one (ds_app 3 (pe_bm PySem.F.plainAttrs_list PySem.F.slot_list_append PySem.F.type_list_append mt_append (pv 3) (pa_cons (de_var 4) pa_nil)))) ds_nil)))) (ds_cons (ds_set (i := 5) sc.nd (de_lst da_nil)) (ds_cons (ds_frz [3] (ds_for (T := (.nm 4)) PO rfl (df_any (de_var 3)) (pg_name (i := 4) sc.nd rfl (by first | exact .inl rfl | exact .inr rfl)) (ds_cons (ds_set (i := 6) sc.nd (de_lst da_nil)) (ds_cons (ds_for (T := (.nm 7)) PO rfl (df_any (de_of (dp_ix (dp_ix (dp_var 0) (dp_of de_int)) (dp_var 4)))) (pg_name (i := 7) sc.nd rfl (by first | exact .inl rfl | exact .inr rfl)) (ds_one (ds_app 6 (pe_bm PySem.F.plainAttrs_list PySem.F.slot_list_append PySem.F.type_list_append mt_append (pv 6) (pa_cons (de_of (dp_ix (dp_of (de_lc (T := (.nm 9)) rfl sc.nd (di_of (df_rng1 T.n_range (de_len T.n_len (dp_var 3)))) (blkOk_by (own := [(PySem.Str.ofString "k", 9)]) (by show blkC ["monitor", "nodes", "apart", "kept", "node", "edges", "row", "later", "other", "k"] (defScope (topS 28)) _ _ = true; decide +kernel)) (fun s H C cl fp => (pg_name (i := 9) sc.nd rfl (by first | exact .inl rfl | exact .inr rfl))) (fun s H C cl fp => (dts_one (dt_not (dt_val (de_of (dp_ix (dp_ix (dp_var 2) (dp_ix (dp_var 3) (dp_var 9))) (dp_var 7))))))) (fun s H C cl fp => (de_var 9)))) (dp_of de_int))) pa_nil))))) (ds_one (ds_app 5 (pe_bm PySem.F.plainAttrs_list PySem.F.slot_list_append PySem.F.type_list_append mt_append (pv 5) (pa_cons (de_tuple T.n_tuple (dp_var 6)) pa_nil)))))))) (ds_one (ds_ret (de_tup (da_cons (de_tuple T.n_tuple (dp_ix (dp_var 0) (dp_of de_int))) (da_cons de_int (da_cons (de_tuple T.n_tuple (dp_of (de_lc (T := (.nm 4)) rfl sc.nd (di_any (dp_var 3)) (blkOk_by (own := [(PySem.Str.ofString "node", 4)]) (by show blkC ["monitor", "nodes", "apart", "kept", "node", "edges", "row", "later", "other", "k"] (defScope (topS 28)) _ _ = true; decide +kernel)) (fun s H C cl fp => (pg_name (i := 4) sc.nd rfl (by first | exact .inl rfl | exact .inr rfl))) (fun s H C cl fp => dts_nil) (fun s H C cl fp => (de_of (dp_ix (dp_ix (dp_var 0) (dp_of de_int)) (dp_var 4))))))) (da_cons (de_tuple T.n_tuple (dp_var 5)) da_nil)))))))))))))
theorem sc_law_both_nodes : FnScope ["left", "right", "rows", "known", "k", "place", "pair"] ["left", "right"] (defScope (topS 23)) := ⟨rfl, rfl, rfl, by decide +kernel, rfl, by decide +kernel, by decide +kernel⟩
theorem ok_law_both_nodes (T : Txt K mg) (D : All K mg) : FnOk P w K mg base (L2.CX P w) 1 D.d_law_both_nodes.f D.d_law_both_nodes.fd ["left", "right"] (spD K w mg 2 m_law_both_nodes) := fnD (k := 0) (N := ["left", "right", "rows", "known", "k", "place", "pair"]) (ps := ["left", "right"]) (gb := g_law_both_nodes) D.d_law_both_nodes.F sc_law_both_nodes fun cdv A outer s H E hr => by
  have sc := sc_law_both_nodes
  have tk : Takes (cxOf (L2.CX P w) P w K mg base ["left", "right", "rows", "known", "k", "place", "pair"] "_law_both_nodes" (defScope (topS 23)) D.d_law_both_nodes.f cdv A outer s H E) (fun cls d _ H => E cls d H) := takes_of rfl rfl rfl rfl
  have PO : PassesOwn (model P w) (cxOf (L2.CX P w) P w K mg base ["left", "right", "rows", "known", "k", "place", "pair"] "_law_both_nodes" (defScope (topS 23)) D.d_law_both_nodes.f cdv A outer s H E).A (cxOf (L2.CX P w) P w K mg base ["left", "right", "rows", "known", "k", "place", "pair"] "_law_both_nodes" (defScope (topS 23)) D.d_law_both_nodes.f cdv A outer s H E).env (cxOf (L2.CX P w) P w K mg base ["left", "right", "rows", "known", "k", "place", "pair"] "_law_both_nodes" (defScope (topS 23)) D.d_law_both_nodes.f cdv A outer s H E).xe := passes_of rfl
  exact (ds_cons (ds_set (i := 2) sc.nd (de_lst (da_cons (de_tup (da_cons (de_of (dp_ix (dp_var 0) (dp_of de_int))) (da_cons (de_of (dp_ix (dp_var 1) (dp_of de_int))) (da_cons (de_tup da_nil) da_nil)))) da_nil))) (ds_cons (ds_set (i := 3) sc.nd (de_lst (da_cons (de_tup (da_cons (de_of (dp_ix (dp_var 0) (dp_of de_int))) (da_cons (de_of (dp_ix (dp_var 1) (dp_of de_int))) da_nil))) da_nil))) (ds_cons (ds_for (T := (.nm 4)) PO rfl (df_rng1 T.n_range (de_op opr_mul op2_mul (dp_of (de_len T.n_len (dp_ix (dp_var 0) (dp_of de_int)))) (dp_of (de_len T.n_len (dp_ix (dp_var 1) (dp_of de_int)))))) (pg_name (i := 4) sc.nd rfl (by first | exact .inl rfl | exact .inr rfl)) (ds_one (ds_if (dt_cmp op_lt op2_intB (dp_var 4) (dp_of (de_len T.n_len (dp_var 2))) (nomark _)) (ds_one (ds_for (T := (.nm 5)) PO rfl (df_rng1 T.n_range (de_len T.n_len (dp_ix (dp_var 0) (dp_of de_int)))) (pg_name (i := 5) sc.nd rfl (by first | exact .inl rfl | exact .inr rfl)) (ds_cons (ds_set (i := 6) sc.nd (de_tup (da_cons (de_of (dp_ix (dp_ix (dp_ix (dp_var 0) (dp_of de_int)) (dp_ix (dp_ix (dp_var 2) (dp_var 4)) (dp_of de_int))) (dp_var 5))) (da_cons (de_of (dp_ix (dp_ix (dp_ix (dp_var 1) (dp_of de_int)) (dp_ix (dp_ix (dp_var 2) (dp_var 4)) (dp_of de_int))) (dp_var 5))) da_nil)))) (ds_one (ds_if (dt_cmp (opr_notIn (units65 hr)) op2_notIn (dp_var 6) (dp_var 3) (by with_unfolding_all rfl)) (ds_cons (ds_app 3 (pe_bm PySem.F.plainAttrs_list PySem.F.slot_list_append PySem.F.type_list_append mt_append (pv 3) (pa_cons (de_var 6) pa_nil))) (ds_one (ds_app 2 (pe_bm PySem.F.plainAttrs_list PySem.F.slot_list_append PySem.F.type_list_append mt_append (pv 2) (pa_cons (de_op opr_add op2_add (dp_var 6) (dp_of (de_tup (da_cons (de_op opr_add op2_add (dp_ix (dp_ix (dp_var 2) (dp_var 4)) (dp_of de_int)) (dp_of (de_tup (da_cons (de_var 5) da_nil)))) da_nil)))) pa_nil))))) ds_nil))))) ds_nil))) (ds_one (ds_retV 2)))))
theorem sc_law_joined_verdict : FnScope ["kind", "left", "right", "told", "rest", "verdict"] ["kind", "left", "right"] (defScope (topS 25)) := ⟨rfl, rfl, rfl, by decide +kernel, rfl, by decide +kernel, by decide +kernel⟩
theorem ok_law_joined_verdict (T : Txt K mg) (D : All K mg) : ∀ n : Nat, FnOk P w K mg base (L2.CX P w) (2 + n) D.d_law_joined_verdict.f D.d_law_joined_verdict.fd ["kind", "left", "right"] (spD K w mg 3 (m_law_joined_verdict n))
  | 0 => ⟨fun vs H Q E ⟨_, _, _, _, _, h⟩ => h.elim, fun _ _ _ _ _ _ _ _ _ _ _ _ _ ⟨_, _, _, _, _, h⟩ => h.elim⟩
  | n + 1 => fnD (k := 2 + n) (N := ["kind", "left", "right", "told", "rest", "verdict"]) (ps := ["kind", "left", "right"]) (gb := (g_law_joined_verdict (m_law_joined_verdict n))) D.d_law_joined_verdict.F sc_law_joined_verdict fun cdv A outer s H E hr => by
    have RF := ok_law_joined_verdict T D n
    have RN := mn_law_joined_verdict n
    have RP := mp_law_joined_verdict n
    have sc := sc_law_joined_verdict
    have tk : Takes (cxOf (L2.CX P w) P w K mg base ["kind", "left", "right", "told", "rest", "verdict"] "_law_joined_verdict" (defScope (topS 25)) D.d_law_joined_verdict.f cdv A outer s H E) (fun cls d _ H => E cls d H) := takes_of rfl rfl rfl rfl
    have PO : PassesOwn (model P w) (cxOf (L2.CX P w) P w K mg base ["kind", "left", "right", "told", "rest", "verdict"] "_law_joined_verdict" (defScope (topS 25)) D.d_law_joined_verdict.f cdv A outer s H E).A (cxOf (L2.CX P w) P w K mg base ["kind", "left", "right", "told", "rest", "verdict"] "_law_joined_verdict" (defScope (topS 25)) D.d_law_joined_verdict.f cdv A outer s H E).env (cxOf (L2.CX P w) P w K mg base ["kind", "left", "right", "told", "rest", "verdict"] "_law_joined_verdict" (defScope (topS 25)) D.d_law_joined_verdict.f cdv A outer s H E).xe := passes_of rfl
    exact (ds_cons (ds_if (dt_cmp (op_eqD hr.units) op2_eq (dp_var 0) (dp_of de_str) (nomark _)) (ds_one (ds_ret (de_call (ok_law_opposed T D) (hr.mono (Nat.le_trans (by decide : 1 ≤ 2) (Nat.le_add_right _ _))) tk D.d_law_opposed.g D.d_law_opposed.F.kp D.d_law_opposed.b (da_cons (de_call RF (hr.mono (Nat.le_refl _)) tk D.d_law_joined_verdict.g D.d_law_joined_verdict.F.kp D.d_law_joined_verdict.b (da_cons de_str (da_cons (de_call (ok_law_opposed T D) (hr.mono (Nat.le_trans (by decide : 1 ≤ 2) (Nat.le_add_right _ _))) tk D.d_law_opposed.g D.d_law_opposed.F.kp D.d_law_opposed.b (da_cons (de_var 1) da_nil) (hn := runD_no) (hp := runD_plain)) (da_cons (de_call (ok_law_opposed T D) (hr.mono (Nat.le_trans (by decide : 1 ≤ 2) (Nat.le_add_right _ _))) tk D.d_law_opposed.g D.d_law_opposed.F.kp D.d_law_opposed.b (da_cons (de_var 2) da_nil) (hn := runD_no) (hp := runD_plain)) da_nil))) (hn := RN) (hp := RP)) da_nil) (hn := runD_no) (hp := runD_plain)))) ds_nil) (ds_cons (ds_set (i := 3) sc.nd (de_lst (da_cons (de_var 1) (da_cons (de_var 2) da_nil)))) (ds_cons (ds_if (dt_cmp (opr_in (units65 hr)) op2_in (dp_of de_str) (dp_var 3) (by with_unfolding_all rfl)) (ds_one (ds_ret de_str)) ds_nil) (ds_cons (ds_if (dt_cmp (op_eqD hr.units) op2_eq (dp_var 0) (dp_of de_str) (nomark _)) (ds_cons (ds_if (PW.pt (dw_and (dt_cmp (opr_in (units65 hr)) op2_in (dp_of de_str) (dp_var 3) (by with_unfolding_all rfl)) (dw_and1 (dt_cmp (opr_in (units65 hr)) op2_in (dp_of de_str) (dp_var 3) (by with_unfolding_all rfl))))) (ds_one (ds_ret de_str)) ds_nil) (ds_cons (ds_lc (i := 4) (T := (.nm 5)) rfl sc.nd (sw_true rfl rfl rfl (by decide +kernel)) (di_any (dp_var 3)) (blkOk_by (own := [(PySem.Str.ofString "verdict", 5)]) (by show blkC ["kind", "left", "right", "told", "rest", "verdict"] (defScope (topS 25)) _ _ = true; decide +kernel)) (fun s H C cl fp => (pg_name (i := 5) sc.nd rfl (by first | exact .inl rfl | exact .inr rfl))) (fun s H C cl fp => (dts_one (dt_cmp (op_neD hr.units) op2_ne (dp_var 5) (dp_of de_str) (nomark _)))) (fun s H C cl fp => (de_var 5))) (ds_one (ds_ret (de_of (dp_ix (dp_of (de_op opr_add op2_add (dp_var 4) (dp_of (de_lst (da_cons de_str da_nil))))) (dp_of de_int))))))) ds_nil) (ds_cons (ds_if (dt_cmp (opr_in (units65 hr)) op2_in (dp_of de_str) (dp_var 3) (by with_unfolding_all rfl)) (ds_one (ds_ret de_str)) ds_nil) (ds_one (ds_ret (de_of (dp_ix (dp_of (de_lst (da_cons de_str (da_cons de_str da_nil)))) (dp_of (de_intT T.n_int (dp_of (de_cmp (op_eqD hr.units) op2_eq (dp_var 3) (dp_of (de_lst (da_cons de_str (da_cons de_str da_nil)))) (nomark _))))))))))))))
theorem sc_law_joined_monitor : FnScope ["kind", "left", "right", "rows", "pairs", "edges", "verdicts", "a", "b", "row", "p"] ["kind", "left", "right"] (defScope (topS 29)) := ⟨rfl, rfl, rfl, by decide +kernel, rfl, by decide +kernel, by decide +kernel⟩
theorem ok_law_joined_monitor (T : Txt K mg) (D : All K mg) : FnOk P w K mg base (L2.CX P w) 5 D.d_law_joined_monitor.f D.d_law_joined_monitor.fd ["kind", "left", "right"] (spD K w mg 3 m_law_joined_monitor) := fnD (k := 4) (N := ["kind", "left", "right", "rows", "pairs", "edges", "verdicts", "a", "b", "row", "p"]) (ps := ["kind", "left", "right"]) (gb := g_law_joined_monitor) D.d_law_joined_monitor.F sc_law_joined_monitor fun cdv A outer s H E hr => by
  have sc := sc_law_joined_monitor
  have tk : Takes (cxOf (L2.CX P w) P w K mg base ["kind", "left", "right", "rows", "pairs", "edges", "verdicts", "a", "b", "row", "p"] "_law_joined_monitor" (defScope (topS 29)) D.d_law_joined_monitor.f cdv A outer s H E) (fun cls d _ H => E cls d H) := takes_of rfl rfl rfl rfl
  have PO : PassesOwn (model P w) (cxOf (L2.CX P w) P w K mg base ["kind", "left", "right", "rows", "pairs", "edges", "verdicts", "a", "b", "row", "p"] "_law_joined_monitor" (defScope (topS 29)) D.d_law_joined_monitor.f cdv A outer s H E).A (cxOf (L2.CX P w) P w K mg base ["kind", "left", "right", "rows", "pairs", "edges", "verdicts", "a", "b", "row", "p"] "_law_joined_monitor" (defScope (topS 29)) D.d_law_joined_monitor.f cdv A outer s H E).env (cxOf (L2.CX P w) P w K mg base ["kind", "left", "right", "rows", "pairs", "edges", "verdicts", "a", "b", "row", "p"] "_law_joined_monitor" (defScope (topS 29)) D.d_law_joined_monitor.f cdv A outer s H E).xe := passes_of rfl
  exact (ds_cons (ds_set (i := 3) sc.nd (de_call (ok_law_both_nodes T D) (hr.mono (by decide)) tk D.d_law_both_nodes.g D.d_law_both_nodes.F.kp D.d_law_both_nodes.b (da_cons (de_var 1) (da_cons (de_var 2) da_nil)) (hn := runD_no) (hp := runD_plain))) (ds_cons (ds_set (i := 4) sc.nd (de_lc (T := (.nm 9)) rfl sc.nd (di_any (dp_var 3)) (blkOk_by (own := [(PySem.Str.ofString "row", 9)]) (by show blkC ["kind", "left", "right", "rows", "pairs", "edges", "verdicts", "a", "b", "row", "p"] (defScope (topS 29)) _ _ = true; decide +kernel)) (fun s H C cl fp => (pg_name (i := 9) sc.nd rfl (by first | exact .inl rfl | exact .inr rfl))) (fun s H C cl fp => dts_nil) (fun s H C cl fp => (de_tup (da_cons (de_of (dp_ix (dp_var 9) (dp_of de_int))) (da_cons (de_of (dp_ix (dp_var 9) (dp_of de_int))) da_nil)))))) (ds_cons (ds_set (i := 5) sc.nd (de_lst da_nil)) (ds_cons (ds_frz [4] (ds_for (T := (.tp [7, 8])) PO rfl (df_any (de_var 4)) (pg_tup rfl (pgs_cons (pg_name (i := 7) sc.nd rfl (by first | exact .inl rfl | exact .inr rfl)) (pgs_cons (pg_name (i := 8) sc.nd rfl (by first | exact .inl rfl | exact .inr rfl)) pgs_nil))) (ds_one (ds_app 5 (pe_bm PySem.F.plainAttrs_list PySem.F.slot_list_append PySem.F.type_list_append mt_append (pv 5) (pa_cons (de_tuple T.n_tuple (dp_of (de_lc (T := (.nm 10)) rfl sc.nd (di_of (df_rng1 T.n_range (de_len T.n_len (dp_ix (dp_var 1) (dp_of de_int))))) (blkOk_by (own := [(PySem.Str.ofString "p", 10)]) (by show blkC ["kind", "left", "right", "rows", "pairs", "edges", "verdicts", "a", "b", "row", "p"] (defScope (topS 29)) _ _ = true; decide +kernel)) (fun s H C cl fp => (pg_name (i := 10) sc.nd rfl (by first | exact .inl rfl | exact .inr rfl))) (fun s H C cl fp => dts_nil) (fun s H C cl fp => (de_index (units65 hr) (dp_var 4) (dp_of (de_tup (da_cons (de_of (dp_ix (dp_ix (dp_ix (dp_var 1) (dp_of de_int)) (dp_var 7)) (dp_var 10))) (da_cons (de_of (dp_ix (dp_ix (dp_ix (dp_var 2) (dp_of de_int)) (dp_var 8)) (dp_var 10))) da_nil))))))))) pa_nil)))))) (ds_cons (ds_set (i := 6) sc.nd (de_tuple T.n_tuple (dp_of (de_lc (T := (.tp [7, 8])) rfl sc.nd (di_any (dp_var 4)) (blkOk_by (own := [(PySem.Str.ofString "a", 7), (PySem.Str.ofString "b", 8)]) (by show blkC ["kind", "left", "right", "rows", "pairs", "edges", "verdicts", "a", "b", "row", "p"] (defScope (topS 29)) _ _ = true; decide +kernel)) (fun s H C cl fp => (pg_tup rfl (pgs_cons (pg_name (i := 7) sc.nd rfl (by first | exact .inl rfl | exact .inr rfl)) (pgs_cons (pg_name (i := 8) sc.nd rfl (by first | exact .inl rfl | exact .inr rfl)) pgs_nil)))) (fun s H C cl fp => dts_nil) (fun s H C cl fp => (de_call (ok_law_joined_verdict T D 2) (hr.mono (by decide)) takes0 D.d_law_joined_verdict.g D.d_law_joined_verdict.F.kp D.d_law_joined_verdict.b (da_cons (de_var 0) (da_cons (de_of (dp_ix (dp_ix (dp_var 1) (dp_of de_int)) (dp_var 7))) (da_cons (de_of (dp_ix (dp_ix (dp_var 2) (dp_of de_int)) (dp_var 8))) da_nil))) (hn := mn_law_joined_verdict 2) (hp := mp_law_joined_verdict 2))))))) (ds_one (ds_ret (de_call (ok_law_smallest T D) (hr.mono (by decide)) tk D.d_law_smallest.g D.d_law_smallest.F.kp D.d_law_smallest.b (da_cons (de_tup (da_cons (de_tuple T.n_tuple (dp_ix (dp_var 1) (dp_of de_int))) (da_cons de_int (da_cons (de_var 6) (da_cons (de_tuple T.n_tuple (dp_var 5)) da_nil))))) da_nil) (hn := runD_no) (hp := runD_plain)))))))))
theorem sc_law_alike : FnScope ["actual", "expected", "k"] ["actual", "expected"] (defScope (topS 30)) := ⟨rfl, rfl, rfl, by decide +kernel, rfl, by decide +kernel, by decide +kernel⟩
theorem ok_law_alike (T : Txt K mg) (D : All K mg) : ∀ n : Nat, FnOk P w K mg base (L2.CX P w) (1 + n) D.d_law_alike.f D.d_law_alike.fd ["actual", "expected"] (spD K w mg 2 (m_law_alike n))
  | 0 => ⟨fun vs H Q E ⟨_, _, _, _, _, h⟩ => h.elim, fun _ _ _ _ _ _ _ _ _ _ _ _ _ ⟨_, _, _, _, _, h⟩ => h.elim⟩
  | n + 1 => fnD (k := 1 + n) (N := ["actual", "expected", "k"]) (ps := ["actual", "expected"]) (gb := (g_law_alike (m_law_alike n))) D.d_law_alike.F sc_law_alike fun cdv A outer s H E hr => by
    have RF := ok_law_alike T D n
    have RN := mn_law_alike n
    have RP := mp_law_alike n
    have sc := sc_law_alike
    have tk : Takes (cxOf (L2.CX P w) P w K mg base ["actual", "expected", "k"] "_law_alike" (defScope (topS 30)) D.d_law_alike.f cdv A outer s H E) (fun cls d _ H => E cls d H) := takes_of rfl rfl rfl rfl
    have PO : PassesOwn (model P w) (cxOf (L2.CX P w) P w K mg base ["actual", "expected", "k"] "_law_alike" (defScope (topS 30)) D.d_law_alike.f cdv A outer s H E).A (cxOf (L2.CX P w) P w K mg base ["actual", "expected", "k"] "_law_alike" (defScope (topS 30)) D.d_law_alike.f cdv A outer s H E).env (cxOf (L2.CX P w) P w K mg base ["actual", "expected", "k"] "_law_alike" (defScope (topS 30)) D.d_law_alike.f cdv A outer s H E).xe := passes_of rfl
    exact (ds_cons (ds_if (dt_isN (dp_var 1)) (ds_one (ds_ret (de_isN (dp_var 0)))) ds_nil) (ds_cons (ds_if (dt_val (de_isi (.inl rfl) T.n_isinstance T.n_bool (by decide +kernel) (dp_var 1))) (ds_one (ds_ret (de_and (de_isi (.inl rfl) T.n_isinstance T.n_bool (by decide +kernel) (dp_var 0)) (de_one (de_cmp (op_eqD hr.units) op2_eq (dp_var 0) (dp_var 1) (nomark _)))))) ds_nil) (ds_cons (ds_if (dt_val (de_isi (.inr (.inl rfl)) T.n_isinstance T.n_int (by decide +kernel) (dp_var 1))) (ds_one (ds_ret (de_and (de_isi (.inr (.inl rfl)) T.n_isinstance T.n_int (by decide +kernel) (dp_var 0)) (de_and (de_not (de_isi (.inl rfl) T.n_isinstance T.n_bool (by decide +kernel) (dp_var 0))) (de_one (de_cmp (op_eqD hr.units) op2_eq (dp_var 0) (dp_var 1) (nomark _))))))) ds_nil) (ds_cons (ds_if (dt_val (de_isi (.inr (.inr (.inl rfl))) T.n_isinstance T.n_str (by decide +kernel) (dp_var 1))) (ds_one (ds_ret (de_and (de_isi (.inr (.inr (.inl rfl))) T.n_isinstance T.n_str (by decide +kernel) (dp_var 0)) (de_one (de_cmp (op_eqD hr.units) op2_eq (dp_var 0) (dp_var 1) (nomark _)))))) ds_nil) (ds_cons (ds_if (PW.pt (dw_and (dt_val (de_isi (.inr (.inr (.inr (.inr rfl)))) T.n_isinstance T.n_tuple (by decide +kernel) (dp_var 1))) (dw_and1 (dt_not (dt_val (de_isi (.inr (.inr (.inr (.inr rfl)))) T.n_isinstance T.n_tuple (by decide +kernel) (dp_var 0))))))) (ds_one (ds_ret de_bl)) ds_nil) (ds_cons (ds_if (PW.pt (dw_and (dt_val (de_isi (.inr (.inr (.inr (.inl rfl)))) T.n_isinstance T.n_list (by decide +kernel) (dp_var 1))) (dw_and1 (dt_not (dt_val (de_isi (.inr (.inr (.inr (.inl rfl)))) T.n_isinstance T.n_list (by decide +kernel) (dp_var 0))))))) (ds_one (ds_ret de_bl)) ds_nil) (ds_cons (ds_if (dt_cmp (op_neD hr.units) op2_ne (dp_of (de_len T.n_len (dp_var 0))) (dp_of (de_len T.n_len (dp_var 1))) (nomark _)) (ds_one (ds_ret de_bl)) ds_nil) (ds_cons (ds_for (T := (.nm 2)) PO rfl (df_rng1 T.n_range (de_len T.n_len (dp_var 1))) (pg_name (i := 2) sc.nd rfl (by first | exact .inl rfl | exact .inr rfl)) (ds_one (ds_if (dt_not (dt_val (de_call RF (hr.mono (Nat.le_refl _)) tk D.d_law_alike.g D.d_law_alike.F.kp D.d_law_alike.b (da_cons (de_of (dp_ix (dp_var 0) (dp_var 2))) (da_cons (de_of (dp_ix (dp_var 1) (dp_var 2))) da_nil)) (hn := RN) (hp := RP)))) (ds_one (ds_ret de_bl)) ds_nil))) (ds_one (ds_ret de_bl))))))))))
theorem sc_law : FnScope ["script", "kept", "kind", "turned_v", "left", "right", "due", "verdict", "row"] ["script"] (defScope (topS 31)) := ⟨rfl, rfl, rfl, by decide +kernel, rfl, by decide +kernel, by decide +kernel⟩
theorem ok_law (T : Txt K mg) (D : All K mg) : TopRun P w K mg base D.d_law.f D.d_law.fd m_law := top_run (k := 13) (N := ["script", "kept", "kind", "turned_v", "left", "right", "due", "verdict", "row"]) (gb := g_law) D.d_law.F sc_law ⟨rfl, by decide, by decide⟩ fun cdv s H E hr => by
  have sc := sc_law
  have tk : Takes (cxOf (L2.CX P w) P w K mg base ["script", "kept", "kind", "turned_v", "left", "right", "due", "verdict", "row"] "law" (defScope (topS 31)) D.d_law.f cdv callerA [] s H E) (fun cls d _ H => E cls d H) := takes_of rfl rfl rfl rfl
  have PO : PassesOwn (model P w) (cxOf (L2.CX P w) P w K mg base ["script", "kept", "kind", "turned_v", "left", "right", "due", "verdict", "row"] "law" (defScope (topS 31)) D.d_law.f cdv callerA [] s H E).A (cxOf (L2.CX P w) P w K mg base ["script", "kept", "kind", "turned_v", "left", "right", "due", "verdict", "row"] "law" (defScope (topS 31)) D.d_law.f cdv callerA [] s H E).env (cxOf (L2.CX P w) P w K mg base ["script", "kept", "kind", "turned_v", "left", "right", "due", "verdict", "row"] "law" (defScope (topS 31)) D.d_law.f cdv callerA [] s H E).xe := passes_of rfl
  have hu65 := units65 hr
  exact (ds_cons (ds_unp (is := [4, 5]) (pg_tup rfl (pgs_cons (pg_name (i := 4) sc.nd rfl (by first | exact .inl rfl | exact .inr rfl)) (pgs_cons (pg_name (i := 5) sc.nd rfl (by first | exact .inl rfl | exact .inr rfl)) pgs_nil))) (de_call (ok_law_two_monitors T D) (hr.mono (by decide)) tk D.d_law_two_monitors.g D.d_law_two_monitors.F.kp D.d_law_two_monitors.b (da_cons (de_var 0) da_nil) (hn := runD_no) (hp := runD_plain))) (ds_cons (ds_set (i := 1) sc.nd (de_repr (by rfl) (by exact hu65) T.n_repr (dp_of (de_tup (da_cons (de_var 4) (da_cons (de_var 5) da_nil)))))) (ds_cons (ds_for (T := (.nm 2)) PO rfl (df_any (de_lst (da_cons de_str (da_cons de_str (da_cons de_str da_nil))))) (pg_name (i := 2) sc.nd rfl (by first | exact .inl rfl | exact .inr rfl)) (ds_cons (ds_set (i := 6) sc.nd (de_call (ok_law_joined_monitor T D) (hr.mono (by decide)) tk D.d_law_joined_monitor.g D.d_law_joined_monitor.F.kp D.d_law_joined_monitor.b (da_cons (de_var 2) (da_cons (de_var 4) (da_cons (de_var 5) da_nil))) (hn := runD_no) (hp := runD_plain))) (ds_cons (ds_if (dt_not (dt_val (de_call (ok_law_alike T D 12) (hr.mono (by decide)) tk D.d_law_alike.g D.d_law_alike.F.kp D.d_law_alike.b (da_cons (de_call (ok_join T D) (hr.mono (by decide)) tk D.d_join.g D.d_join.F.kp D.d_join.b (da_cons (de_var 4) (da_cons (de_var 5) (da_cons (de_var 2) da_nil))) (hn := runD_no) (hp := runD_plain)) (da_cons (de_var 6) da_nil)) (hn := mn_law_alike 12) (hp := mp_law_alike 12)))) (ds_one (ds_ret de_bl)) ds_nil) (ds_one (ds_if (dt_not (dt_val (de_call (ok_law_alike T D 12) (hr.mono (by decide)) tk D.d_law_alike.g D.d_law_alike.F.kp D.d_law_alike.b (da_cons (de_call (ok_join_all T D) (hr.mono (by decide)) tk D.d_join_all.g D.d_join_all.F.kp D.d_join_all.b (da_cons (de_lst (da_cons (de_var 4) (da_cons (de_var 5) (da_cons (de_var 4) da_nil)))) (da_cons (de_var 2) da_nil)) (hn := runD_no) (hp := runD_plain)) (da_cons (de_call (ok_law_joined_monitor T D) (hr.mono (by decide)) tk D.d_law_joined_monitor.g D.d_law_joined_monitor.F.kp D.d_law_joined_monitor.b (da_cons (de_var 2) (da_cons (de_var 6) (da_cons (de_var 4) da_nil))) (hn := runD_no) (hp := runD_plain)) da_nil)) (hn := mn_law_alike 12) (hp := mp_law_alike 12)))) (ds_one (ds_ret de_bl)) ds_nil))))) (ds_cons (ds_set (i := 3) sc.nd (de_tup (da_cons (de_of (dp_ix (dp_var 4) (dp_of de_int))) (da_cons (de_of (dp_ix (dp_var 4) (dp_of de_int))) (da_cons (de_tuple T.n_tuple (dp_of (de_lc (T := (.nm 7)) rfl sc.nd (di_any (dp_ix (dp_var 4) (dp_of de_int))) (blkOk_by (own := [(PySem.Str.ofString "verdict", 7)]) (by show blkC ["script", "kept", "kind", "turned_v", "left", "right", "due", "verdict", "row"] (defScope (topS 31)) _ _ = true; decide +kernel)) (fun s H C cl fp => (pg_name (i := 7) sc.nd rfl (by first | exact .inl rfl | exact .inr rfl))) (fun s H C cl fp => dts_nil) (fun s H C cl fp => (de_call (ok_law_opposed T D) (hr.mono (by decide)) takes0 D.d_law_opposed.g D.d_law_opposed.F.kp D.d_law_opposed.b (da_cons (de_var 7) da_nil) (hn := runD_no) (hp := runD_plain)))))) (da_cons (de_of (dp_ix (dp_var 4) (dp_of de_int))) da_nil)))))) (ds_cons (ds_if (dt_not (dt_val (de_call (ok_law_alike T D 12) (hr.mono (by decide)) tk D.d_law_alike.g D.d_law_alike.F.kp D.d_law_alike.b (da_cons (de_call (ok_opposite T D) (hr.mono (by decide)) tk D.d_opposite.g D.d_opposite.F.kp D.d_opposite.b (da_cons (de_var 4) da_nil) (hn := runD_no) (hp := runD_plain)) (da_cons (de_call (ok_law_smallest T D) (hr.mono (by decide)) tk D.d_law_smallest.g D.d_law_smallest.F.kp D.d_law_smallest.b (da_cons (de_var 3) da_nil) (hn := runD_no) (hp := runD_plain)) da_nil)) (hn := mn_law_alike 12) (hp := mp_law_alike 12)))) (ds_one (ds_ret de_bl)) ds_nil) (ds_cons (ds_if (dt_not (dt_val (de_call (ok_law_alike T D 12) (hr.mono (by decide)) tk D.d_law_alike.g D.d_law_alike.F.kp D.d_law_alike.b (da_cons (de_call (ok_join_all T D) (hr.mono (by decide)) tk D.d_join_all.g D.d_join_all.F.kp D.d_join_all.b (da_cons (de_lst (da_cons (de_var 5) da_nil)) (da_cons de_str da_nil)) (hn := runD_no) (hp := runD_plain)) (da_cons (de_call (ok_law_smallest T D) (hr.mono (by decide)) tk D.d_law_smallest.g D.d_law_smallest.F.kp D.d_law_smallest.b (da_cons (de_var 5) da_nil) (hn := runD_no) (hp := runD_plain)) da_nil)) (hn := mn_law_alike 12) (hp := mp_law_alike 12)))) (ds_one (ds_ret de_bl)) ds_nil) (ds_cons (ds_tryB T.x_OtherReadings (fun W pn xe tk2 _ => (ds_one (ds_expr (de_call (ok_join T D) (hr.mono (by decide)) tk2 D.d_join.g D.d_join.F.kp D.d_join.b (da_cons (de_var 4) (da_cons (de_tup (da_cons (de_op opr_add op2_add (dp_ix (dp_var 5) (dp_of de_int)) (dp_of (de_tup (da_cons (de_tup (da_cons de_int (da_cons de_int da_nil))) da_nil)))) (da_cons (de_of (dp_ix (dp_var 5) (dp_of de_int))) (da_cons (de_of (dp_ix (dp_var 5) (dp_of de_int))) (da_cons (de_tuple T.n_tuple (dp_of (de_lc (T := (.nm 8)) rfl sc.nd (di_any (dp_ix (dp_var 5) (dp_of de_int))) (blkOk_by (own := [(PySem.Str.ofString "row", 8)]) (by show blkC ["script", "kept", "kind", "turned_v", "left", "right", "due", "verdict", "row"] (defScope (topS 31)) _ _ = true; decide +kernel)) (fun s H C cl fp => (pg_name (i := 8) sc.nd rfl (by first | exact .inl rfl | exact .inr rfl))) (fun s H C cl fp => dts_nil) (fun s H C cl fp => (de_op opr_add op2_add (dp_var 8) (dp_of (de_tup (da_cons de_int da_nil)))))))) da_nil))))) (da_cons de_str da_nil))) (hn := runD_no) (hp := runD_plain))))) (fun _ _ _ => (ds_one (ds_ret (de_cmp (op_eqD hr.units) op2_eq (dp_of (de_repr (by rfl) (by exact hu65) T.n_repr (dp_of (de_tup (da_cons (de_var 4) (da_cons (de_var 5) da_nil)))))) (dp_var 1) (nomark _)))))) (ds_one (ds_ret de_bl)))))))))
end
end K89
/-! ## DL, part 10: how the plain functions reckon -/
namespace DL
open PySem
section
variable {e : Env} {c : Cell} {x y : D} {xs ys : List D} {xss : List (List D)} {i j : Int} {n : Nat} {s t : Str} {b : Bool}
@[simp] theorem getC_d : getC 0 (.d x :: e) = .ok (.d x) := rfl
@[simp] theorem getC_own : getC 0 (.own xs :: e) = .ok (.own xs) := rfl
@[simp] theorem getC_own2 : getC 0 (.own2 xss :: e) = .ok (.own2 xss) := rfl
@[simp] theorem getC_un : getC 0 (.un :: e) = .no := rfl
@[simp] theorem getC_succ : getC (n + 1) (c :: e) = getC n e := by
  unfold getC
  rw [List.getElem?_cons_succ]
@[simp] theorem val_d : Cell.val (.d x) = .ok (.d x) := rfl
@[simp] theorem varD_eq : varD n e = (getC n e).bind Cell.val := rfl
@[simp] theorem cstD_eq : cstD x e = .ok (.d x) := rfl
@[simp] theorem intI_int {f : Int → Int → Int} : intI f (.d (.int i)) (.d (.int j)) = .ok (.d (.int (f i j))) := rfl
@[simp] theorem intB_int {f : Int → Int → Bool} : intB f (.d (.int i)) (.d (.int j)) = .ok (.d (.bool (f i j))) := rfl
@[simp] theorem addD_int : addD (.d (.int i)) (.d (.int j)) = .ok (.d (.int (i + j))) := rfl
theorem addD_own (h : xs.length + ys.length ≤ 16777216) : addD (.own xs) (.own ys) = .ok (.own (xs ++ ys)) := by
  show (if xs.length + ys.length ≤ 16777216 then _ else _) = _
  rw [if_pos h]
theorem addD_own_list (h : xs.length + ys.length ≤ 16777216) : addD (.own xs) (.d (.list ys)) = .ok (.own (xs ++ ys)) := by
  show (if xs.length + ys.length ≤ 16777216 then _ else _) = _
  rw [if_pos h]
theorem addD_list_own (h : xs.length + ys.length ≤ 16777216) : addD (.d (.list xs)) (.own ys) = .ok (.own (xs ++ ys)) := by
  show (if xs.length + ys.length ≤ 16777216 then _ else _) = _
  rw [if_pos h]
theorem addD_list (h : xs.length + ys.length ≤ 16777216) : addD (.d (.list xs)) (.d (.list ys)) = .ok (.own (xs ++ ys)) := by
  show (if xs.length + ys.length ≤ 16777216 then _ else _) = _
  rw [if_pos h]
theorem addD_tup (h : xs.length + ys.length ≤ 16777216) : addD (.d (.tuple xs)) (.d (.tuple ys)) = .ok (.d (.tuple (xs ++ ys))) := by
  show (if xs.length + ys.length ≤ 16777216 then _ else _) = _
  rw [if_pos h]
theorem addD_str (h : s.length + t.length ≤ 16777216) : addD (.d (.str s)) (.d (.str t)) = .ok (.d (.str (s ++ t))) := by
  show (if s.length + t.length ≤ 16777216 then _ else _) = _
  rw [if_pos h]
theorem mulD_int (h : (-(2 ^ 64) < i ∧ i < 2 ^ 64) ∨ (-(2 ^ 64) < j ∧ j < 2 ^ 64)) : mulD (.d (.int i)) (.d (.int j)) = .ok (.d (.int (i * j))) := by
  show (if _ then _ else _) = _
  rw [if_pos h]
theorem mulD_own (h : -(2 ^ 63) ≤ j ∧ j < 2 ^ 63 ∧ xs.length * j.toNat ≤ 16777216) : mulD (.own xs) (.d (.int j)) = .ok (.own (List.replicate j.toNat xs).flatten) := by
  show (if _ then _ else _) = _
  rw [if_pos h]
theorem divD_int (h : 0 < j ∧ j < 1073741824) : divD (.d (.int i)) (.d (.int j)) = .ok (.d (.int (i / j))) := by
  show (if _ then _ else _) = _
  rw [if_pos h]
theorem modD_int (h : 0 < j) : modD (.d (.int i)) (.d (.int j)) = .ok (.d (.int (i % j))) := by
  show (if _ then _ else _) = _
  rw [if_pos h]
@[simp] theorem negD_int : negD (.d (.int i)) = .ok (.d (.int (-i))) := rfl
@[simp] theorem isNone_none : isNoneD (.d .none) = .ok (.d (.bool true)) := rfl
@[simp] theorem isNone_bool : isNoneD (.d (.bool b)) = .ok (.d (.bool false)) := rfl
@[simp] theorem isNone_int : isNoneD (.d (.int i)) = .ok (.d (.bool false)) := rfl
@[simp] theorem isNone_str : isNoneD (.d (.str s)) = .ok (.d (.bool false)) := rfl
@[simp] theorem isNone_list : isNoneD (.d (.list xs)) = .ok (.d (.bool false)) := rfl
@[simp] theorem isNone_tuple : isNoneD (.d (.tuple xs)) = .ok (.d (.bool false)) := rfl
@[simp] theorem isNone_own : isNoneD (.own xs) = .ok (.d (.bool false)) := rfl
@[simp] theorem notNone_none : notNoneD (.d .none) = .ok (.d (.bool false)) := rfl
@[simp] theorem notNone_bool : notNoneD (.d (.bool b)) = .ok (.d (.bool true)) := rfl
@[simp] theorem notNone_int : notNoneD (.d (.int i)) = .ok (.d (.bool true)) := rfl
@[simp] theorem notNone_str : notNoneD (.d (.str s)) = .ok (.d (.bool true)) := rfl
@[simp] theorem notNone_list : notNoneD (.d (.list xs)) = .ok (.d (.bool true)) := rfl
@[simp] theorem notNone_tuple : notNoneD (.d (.tuple xs)) = .ok (.d (.bool true)) := rfl
@[simp] theorem len_list : lenD (.d (.list xs)) = .ok (.d (.int xs.length)) := rfl
@[simp] theorem len_tuple : lenD (.d (.tuple xs)) = .ok (.d (.int xs.length)) := rfl
@[simp] theorem len_own : lenD (.own xs) = .ok (.d (.int xs.length)) := rfl
@[simp] theorem len_own2 : lenD (.own2 xss) = .ok (.d (.int xss.length)) := rfl
@[simp] theorem max_int : maxD (.d (.int i)) (.d (.int j)) = .ok (.d (.int (if j > i then j else i))) := rfl
@[simp] theorem min_int : minD (.d (.int i)) (.d (.int j)) = .ok (.d (.int (if j < i then j else i))) := rfl
@[simp] theorem list_list : listD (.d (.list xs)) = .ok (.own xs) := rfl
@[simp] theorem list_tuple : listD (.d (.tuple xs)) = .ok (.own xs) := rfl
@[simp] theorem list_own : listD (.own xs) = .ok (.own xs) := rfl
@[simp] theorem tuple_list : tupleD (.d (.list xs)) = .ok (.d (.tuple xs)) := rfl
@[simp] theorem tuple_tuple : tupleD (.d (.tuple xs)) = .ok (.d (.tuple xs)) := rfl
@[simp] theorem tuple_own : tupleD (.own xs) = .ok (.d (.tuple xs)) := rfl
@[simp] theorem items_list : itemsR (.d (.list xs)) = .ok xs := rfl
@[simp] theorem items_tuple : itemsR (.d (.tuple xs)) = .ok xs := rfl
@[simp] theorem items_own : itemsR (.own xs) = .ok xs := rfl
@[simp] theorem asB_bool : asB (.d (.bool b)) = .ok b := rfl
@[simp] theorem asD_d : asD (.d x) = .ok x := rfl
@[simp] theorem asD_own : asD (.own xs) = .ok (.list xs) := rfl
@[simp] theorem asI_int : asI (.d (.int i)) = .ok (some i) := rfl
@[simp] theorem cellI_int : cellI (.d (.int i)) = .ok i := rfl
@[simp] theorem asRow_own : asRow (.own xs) = .ok xs := rfl
@[simp] theorem freezeAll_nil : freezeAll [] e = e := rfl
@[simp] theorem freezeAll_cons {i : Nat} {is : List Nat} : freezeAll (i :: is) e = freezeAll is (freeze i e) := rfl
@[simp] theorem freeze_zero : freeze 0 (c :: e) = freezeC c :: e := rfl
@[simp] theorem freeze_succ : freeze (n + 1) (c :: e) = c :: freeze n e := by
  unfold freeze
  rw [List.getElem?_cons_succ]
  cases e[n]? with
  | none => rfl
  | some c => rfl
@[simp] theorem freezeC_d : freezeC (.d x) = .d x := rfl
@[simp] theorem freezeC_own : freezeC (.own xs) = .d (.list xs) := rfl
@[simp] theorem freezeC_own2 : freezeC (.own2 xss) = .d (.list (xss.map .list)) := rfl
@[simp] theorem freezeC_un : freezeC .un = .un := rfl
@[simp] theorem ownAt_zero {f : List D → Out} : ownAt 0 (.own xs :: e) f = f xs := rfl
@[simp] theorem ownAt_succ {f : List D → Out} : ownAt (n + 1) (c :: e) f = ownAt n e f := by
  unfold ownAt
  rw [List.getElem?_cons_succ]
@[simp] theorem getC_par {k : Nat} {c : Cell} : getC 0 (.par k c :: e) = .ok c := rfl
@[simp] theorem getC_dic {kvs : List (D × D)} : getC 0 (.dic kvs :: e) = .ok (.dic kvs) := rfl
@[simp] theorem parAt_zero {k : Nat} {f : Nat → List D → Out} : parAt 0 (.par k (.own xs) :: e) f = f k xs := rfl
@[simp] theorem parAt_succ {f : Nat → List D → Out} : parAt (n + 1) (c :: e) f = parAt n e f := by
  unfold parAt
  rw [List.getElem?_cons_succ]
@[simp] theorem freezeC_par {k : Nat} {c : Cell} : freezeC (.par k c) = .par k c := rfl
@[simp] theorem freezeC_dic {kvs : List (D × D)} : freezeC (.dic kvs) = .dic kvs := rfl
@[simp] theorem okP_d : okP (.d x) = .ok (.d x) := rfl
@[simp] theorem okP_own : okP (.own xs) = .ok (.own xs) := rfl
@[simp] theorem okP_own2 : okP (.own2 xss) = .ok (.own2 xss) := rfl
@[simp] theorem okP_dic {kvs : List (D × D)} : okP (.dic kvs) = .ok (.dic kvs) := rfl
@[simp] theorem endD_re {e : Env} : endD (.re c e) = okP c := rfl
@[simp] theorem insideC_own : insideC 0 (.own xs :: e) = .ok (.own xs) := rfl
@[simp] theorem insideC_dic {kvs : List (D × D)} : insideC 0 (.dic kvs :: e) = .ok (.dic kvs) := rfl
@[simp] theorem insideC_parown {k : Nat} : insideC 0 (.par k (.own xs) :: e) = .ok (.own xs) := rfl
@[simp] theorem insideC_pardic {k : Nat} {kvs : List (D × D)} : insideC 0 (.par k (.dic kvs) :: e) = .ok (.dic kvs) := rfl
@[simp] theorem insideC_succ : insideC (n + 1) (c :: e) = insideC n e := by
  unfold insideC
  rw [List.getElem?_cons_succ]
@[simp] theorem putBack_zero {x : Cell} : putBack 0 c (x :: e) = wrapC c x :: e := rfl
@[simp] theorem putBack_succ {x : Cell} : putBack (n + 1) c (x :: e) = x :: putBack n c e := by
  unfold putBack
  rw [List.getElem?_cons_succ]
  cases e[n]? <;> rfl
@[simp] theorem wrapC_own : wrapC c (.own xs) = c := rfl
@[simp] theorem wrapC_dic {kvs : List (D × D)} : wrapC c (.dic kvs) = c := rfl
@[simp] theorem wrapC_par {k : Nat} {x : Cell} : wrapC c (.par k x) = .par k c := rfl
@[simp] theorem quiet_ok' {α : Type} {x : α} : (R.ok x).quiet = .ok x := rfl
@[simp] theorem own2At_zero {f : List (List D) → Out} : own2At 0 (.own2 xss :: e) f = f xss := rfl
@[simp] theorem own2At_succ {f : List (List D) → Out} : own2At (n + 1) (c :: e) f = own2At n e f := by
  unfold own2At
  rw [List.getElem?_cons_succ]
@[simp] theorem andR_ok {r : R Bool} : andR (.ok b) r = if b = true then r else .ok false := rfl
@[simp] theorem orR_ok {r : R Bool} : orR (.ok b) r = if b = true then .ok true else r := rfl
@[simp] theorem notR_ok : notR (.ok b) = .ok (!b) := rfl
@[simp] theorem andV_ok {r : R Cell} : andV (.ok (.d (.bool b))) r = if b = true then r else .ok (.d (.bool false)) := rfl
@[simp] theorem orV_ok {r : R Cell} : orV (.ok (.d (.bool b))) r = if b = true then .ok (.d (.bool true)) else r := rfl
@[simp] theorem notV_ok : notV (.ok (.d (.bool b))) = .ok (.d (.bool (!b))) := rfl
@[simp] theorem ifR_ok {α : Type} {u v : R α} : ifR (.ok b) u v = if b = true then u else v := rfl
@[simp] theorem consR_ok {r : R (List D)} : consR (.ok (.d x)) r = r.bind fun ds => .ok (x :: ds) := rfl
@[simp] theorem consR_own {r : R (List D)} : consR (.ok (.own xs)) r = r.bind fun ds => .ok (.list xs :: ds) := rfl
@[simp] theorem consR_no {r : R (List D)} : consR .no r = .no := rfl
theorem lstR_ok (h : xs.length ≤ 16777216) : lstR (.ok xs) = .ok (.own xs) := by
  show (if _ then _ else _) = _
  rw [if_pos h]
theorem tupR_ok (h : xs.length ≤ 16777216) : tupR (.ok xs) = .ok (.d (.tuple xs)) := by
  show (if _ then _ else _) = _
  rw [if_pos h]
@[simp] theorem quiet_ok {α : Type} {a : α} : (R.ok a).quiet = .ok a := rfl
@[simp] theorem lent_int : (R.ok (.d (.int i)) : R Cell).lent = .ok (.d (.int i)) := rfl
@[simp] theorem lent_bool : (R.ok (.d (.bool b)) : R Cell).lent = .ok (.d (.bool b)) := rfl
@[simp] theorem lent_none : (R.ok (.d .none) : R Cell).lent = .ok (.d .none) := rfl
@[simp] theorem endD_rt : endD (.rt c) = okP c := rfl
@[simp] theorem endD_nx : endD (.nx e) = .ok (.d .none) := rfl
@[simp] theorem endD_ex {k : Str} {fs : List (Str × D)} : endD (.ex k fs e) = .ex k fs := rfl
@[simp] theorem put_nm : (Tg.nm n).put x e = some (e.set n (.d x)) := rfl
@[simp] theorem turnD_nm {g : Env → Out} : turnD (.nm n) g x e = g (e.set n (.d x)) := rfl
theorem setR_ok {n : Nat} (h : n < e.length) : setR n e c = .nx (e.set n c) := if_pos h
/-- an index within -/
theorem at_nat {α : Type} {l : List α} {k : Nat} {a : α} (h : l[k]? = some a) : L2.atI l (k : Int) = some a := L2.atI_nat h
theorem ix_nat {n k : Nat} (h : k < n) : L2.ixN n (k : Int) = some k := by
  unfold L2.ixN
  rw [if_pos (by omega), if_pos (by omega), Int.toNat_natCast]
theorem idx_list {k : Nat} (h : xs[k]? = some x) : idxD (.d (.list xs)) (.d (.int (k : Int))) = .ok (.d x) := by
  show (match L2.atI xs (k : Int) with | some v => R.ok (Cell.d v) | none => .no) = _
  rw [at_nat h]
theorem idx_tuple {k : Nat} (h : xs[k]? = some x) : idxD (.d (.tuple xs)) (.d (.int (k : Int))) = .ok (.d x) := by
  show (match L2.atI xs (k : Int) with | some v => R.ok (Cell.d v) | none => .no) = _
  rw [at_nat h]
theorem idx_own {k : Nat} (h : xs[k]? = some x) : idxD (.own xs) (.d (.int (k : Int))) = .ok (.d x) := by
  show (match L2.atI xs (k : Int) with | some v => R.ok (Cell.d v) | none => .no) = _
  rw [at_nat h]
theorem idx_own2 {k : Nat} (h : xss[k]? = some xs) : idxD (.own2 xss) (.d (.int (k : Int))) = .ok (.own xs) := by
  show (match L2.atI xss (k : Int) with | some v => R.ok (Cell.own v) | none => .no) = _
  rw [at_nat h]
theorem eqD_ok (hx : SeqAt.shaped x = true) (hy : SeqAt.shaped y = true) : eqD (.d x) (.d y) = .ok (.d (.bool (PyData.eqv x y))) := by
  show (if _ then _ else _) = _
  rw [if_pos ⟨hx, hy⟩]
theorem neD_ok (hx : SeqAt.shaped x = true) (hy : SeqAt.shaped y = true) : neD (.d x) (.d y) = .ok (.d (.bool (!PyData.eqv x y))) := by
  show (if _ then _ else _) = _
  rw [if_pos ⟨hx, hy⟩]
end
/-! ### loops by an invariant -/
theorem forD_ind {g : D → Env → Out} {P : Nat → Env → Prop} : ∀ {xs : List D} {e : Env}, P 0 e → (∀ i x e, xs[i]? = some x → P i e → ∃ e', g x e = .nx e' ∧ P (i + 1) e') → ∃ e', forD g xs e = .nx e' ∧ P xs.length e' := by
  have go : ∀ (xs : List D) (k : Nat) (e : Env), P k e → (∀ i x e, xs[i]? = some x → P (k + i) e → ∃ e', g x e = .nx e' ∧ P (k + i + 1) e') → ∃ e', forD g xs e = .nx e' ∧ P (k + xs.length) e' := by
    intro xs
    induction xs with
    | nil => exact fun k e h _ => ⟨e, rfl, h⟩
    | cons x xs ih =>
      intro k e h st
      obtain ⟨e1, h1, h2⟩ := st 0 x e rfl h
      obtain ⟨e2, h3, h4⟩ := ih (k + 1) e1 h2 fun i y e' hy hp => by
        have := st (i + 1) y e' (by simpa using hy) (by rw [show k + (i + 1) = k + 1 + i by omega]; exact hp)
        rw [show k + (i + 1) = k + 1 + i by omega] at this
        exact this
      refine ⟨e2, ?_, by rw [List.length_cons, show k + (xs.length + 1) = k + 1 + xs.length by omega]; exact h4⟩
      show (match g x e with | .nx e' => forD g xs e' | .ct e' => forD g xs e' | .bk e' => .nx e' | o => o) = _
      rw [h1]
      exact h3
  intro xs e h st
  have := go xs 0 e h fun i x e hx hp => by
    have := st i x e hx (by rw [Nat.zero_add] at hp; exact hp)
    rw [Nat.zero_add]
    exact this
  rw [Nat.zero_add] at this
  exact this
/-- a loop that may leave: o is what it leaves with -/
def Out.stops : Out → Bool
  | .rt _ => true
  | .re _ _ => true
  | .ex _ _ _ => true
  | _ => false
theorem forD_find {g : D → Env → Out} {P : Nat → Env → Prop} {S : Out → Prop} : ∀ {xs : List D} {e : Env}, P 0 e → (∀ i x e, xs[i]? = some x → P i e → (∃ e', g x e = .nx e' ∧ P (i + 1) e') ∨ ((g x e).stops = true ∧ S (g x e))) →
    (∃ e', forD g xs e = .nx e' ∧ P xs.length e') ∨ ((forD g xs e).stops = true ∧ S (forD g xs e)) := by
  have go : ∀ (xs : List D) (k : Nat) (e : Env), P k e → (∀ i x e, xs[i]? = some x → P (k + i) e → (∃ e', g x e = .nx e' ∧ P (k + i + 1) e') ∨ ((g x e).stops = true ∧ S (g x e))) → (∃ e', forD g xs e = .nx e' ∧ P (k + xs.length) e') ∨ ((forD g xs e).stops = true ∧ S (forD g xs e)) := by
    intro xs
    induction xs with
    | nil => exact fun k e h _ => .inl ⟨e, rfl, h⟩
    | cons x xs ih =>
      intro k e h st
      have un : forD g (x :: xs) e = (match g x e with | .nx e' => forD g xs e' | .ct e' => forD g xs e' | .bk e' => .nx e' | o => o) := rfl
      rcases st 0 x e rfl h with ⟨e1, h1, h2⟩ | ⟨h1, h2⟩
      · rw [un, h1]
        rcases ih (k + 1) e1 h2 fun i y e' hy hp => by
          have := st (i + 1) y e' (by simpa using hy) (by rw [show k + (i + 1) = k + 1 + i by omega]; exact hp)
          rw [show k + (i + 1) = k + 1 + i by omega] at this
          exact this with ⟨e2, h3, h4⟩ | h5
        · exact .inl ⟨e2, h3, by rw [List.length_cons, show k + (xs.length + 1) = k + 1 + xs.length by omega]; exact h4⟩
        · exact .inr h5
      · have eo : forD g (x :: xs) e = g x e := by
          rw [un]
          cases q : g x e with
          | rt c => rfl
          | re c e => rfl
          | ex k fs e' => rfl
          | no => exact absurd h1 (by rw [q]; exact Bool.false_ne_true)
          | nx _ => exact absurd h1 (by rw [q]; exact Bool.false_ne_true)
          | bk _ => exact absurd h1 (by rw [q]; exact Bool.false_ne_true)
          | ct _ => exact absurd h1 (by rw [q]; exact Bool.false_ne_true)
        rw [eo]
        exact .inr ⟨h1, h2⟩
  intro xs e h st
  have := go xs 0 e h fun i x e hx hp => by
    have := st i x e hx (by rw [Nat.zero_add] at hp; exact hp)
    rw [Nat.zero_add]
    exact this
  rw [Nat.zero_add] at this
  exact this
/-- a while by a measure -/
theorem whileD_ind {c : Env → R Bool} {g : Env → Out} {P : Nat → Env → Prop} {Q : Env → Prop} (st : ∀ m e, P m e → (c e = .ok false ∧ Q e) ∨ (c e = .ok true ∧ ∃ e', g e = .nx e' ∧ ∃ k, k < m ∧ P k e')) : ∀ (m n : Nat) (e : Env), P m e → m < n → ∃ e', whileD c g n e = .nx e' ∧ Q e' := by
  intro m
  induction m using Nat.strongRecOn with
  | ind m ih =>
    intro n e h hn
    cases n with
    | zero => omega
    | succ n =>
      have un : whileD c g (n + 1) e = (c e).into e fun b => if b = true then (match g e with | .nx e' => whileD c g n e' | .ct e' => whileD c g n e' | .bk e' => .nx e' | o => o) else .nx e := rfl
      rcases st m e h with ⟨h1, h2⟩ | ⟨h1, e', h2, k, hk, h3⟩
      · exact ⟨e, by rw [un, h1]; rfl, h2⟩
      · rw [un, h1, R.into_ok, if_pos rfl, h2]
        exact ih k hk n e' h3 (by omega)
theorem whileD_find {c : Env → R Bool} {g : Env → Out} {P : Nat → Env → Prop} {Q : Env → Prop} {S : Out → Prop} (st : ∀ m e, P m e → (c e = .ok false ∧ Q e) ∨ (c e = .ok true ∧ ((∃ e', g e = .nx e' ∧ ∃ k, k < m ∧ P k e') ∨ ((g e).stops = true ∧ S (g e))))) :
    ∀ (m n : Nat) (e : Env), P m e → m < n → (∃ e', whileD c g n e = .nx e' ∧ Q e') ∨ ((whileD c g n e).stops = true ∧ S (whileD c g n e)) := by
  intro m
  induction m using Nat.strongRecOn with
  | ind m ih =>
    intro n e h hn
    cases n with
    | zero => omega
    | succ n =>
      have un : whileD c g (n + 1) e = (c e).into e fun b => if b = true then (match g e with | .nx e' => whileD c g n e' | .ct e' => whileD c g n e' | .bk e' => .nx e' | o => o) else .nx e := rfl
      rcases st m e h with ⟨h1, h2⟩ | ⟨h1, ⟨e', h2, k, hk, h3⟩ | ⟨h2, h3⟩⟩
      · exact .inl ⟨e, by rw [un, h1]; rfl, h2⟩
      · rw [un, h1, R.into_ok, if_pos rfl, h2]
        exact ih k hk n e' h3 (by omega)
      · have eo : whileD c g (n + 1) e = g e := by
          rw [un, h1, R.into_ok, if_pos rfl]
          cases q : g e with
          | rt c => rfl
          | re c e => rfl
          | ex k fs e' => rfl
          | no => exact absurd h2 (by rw [q]; exact Bool.false_ne_true)
          | nx _ => exact absurd h2 (by rw [q]; exact Bool.false_ne_true)
          | bk _ => exact absurd h2 (by rw [q]; exact Bool.false_ne_true)
          | ct _ => exact absurd h2 (by rw [q]; exact Bool.false_ne_true)
        rw [eo]
        exact .inr ⟨h2, h3⟩
theorem mapR_map {α β : Type} {f : α → R β} {g : α → β} : ∀ {xs : List α}, (∀ x ∈ xs, f x = .ok (g x)) → mapR f xs = .ok (xs.map g)
  | [], _ => rfl
  | x :: xs, h => by
    show (f x).bind (fun y => (mapR f xs).bind fun ys => .ok (y :: ys)) = _
    rw [h x List.mem_cons_self, R.bind_ok, mapR_map fun y hy => h y (List.mem_cons_of_mem _ hy)]
    rfl
theorem mapIf_filter {α β : Type} {t : α → R Bool} {f : α → R β} {p : α → Bool} {g : α → β} : ∀ {xs : List α}, (∀ x ∈ xs, t x = .ok (p x)) → (∀ x ∈ xs, p x = true → f x = .ok (g x)) → mapIf t f xs = .ok ((xs.filter p).map g)
  | [], _, _ => rfl
  | x :: xs, h1, h2 => by
    show (t x).bind (fun b => if b = true then (f x).bind (fun y => (mapIf t f xs).bind fun ys => .ok (y :: ys)) else mapIf t f xs) = _
    rw [h1 x List.mem_cons_self, R.bind_ok, mapIf_filter (fun y hy => h1 y (List.mem_cons_of_mem _ hy)) (fun y hy => h2 y (List.mem_cons_of_mem _ hy))]
    cases q : p x with
    | false =>
      rw [List.filter_cons, q]
      rfl
    | true =>
      rw [if_pos rfl, h2 x List.mem_cons_self q, List.filter_cons, q]
      rfl
theorem rng1_nat {n : Nat} (h : n ≤ 16777217) : rng1D (.d (.int (n : Int))) = .ok (upFrom 0 n) := by
  unfold rng1D
  simp only []
  rw [if_pos (by omega), Int.toNat_natCast]
theorem rng1_int {i : Int} (h0 : 0 ≤ i) (h : i ≤ 16777217) : rng1D (.d (.int i)) = .ok (upFrom 0 i.toNat) := by
  unfold rng1D
  simp only []
  rw [if_pos (by omega)]
theorem rev_nat {n : Nat} (h : n ≤ 16777217) : rngRevD (.d (.int (n : Int))) = .ok (stepFrom ((n : Int) - 1) (-1) n) := by
  unfold rngRevD
  simp only []
  rw [if_pos (by omega), Int.sub_zero, Int.toNat_natCast, Int.zero_add]
theorem down_nat {n : Nat} (h : n ≤ 16777217) : rngDownD (.d (.int ((n : Int) - 1))) (.d (.int (-1))) (.d (.int (-1))) = .ok (stepFrom ((n : Int) - 1) (-1) n) := by
  unfold rngDownD
  simp only []
  rw [if_pos (by omega), show ((n : Int) - 1 - -1).toNat = n by omega]
theorem upz_get {n i : Nat} {x : D} (h : (upFrom 0 n)[i]? = some x) : i < n ∧ x = .int (i : Int) := by
  unfold upFrom at h
  rw [List.getElem?_map, Option.map_eq_some_iff] at h
  obtain ⟨k, h1, rfl⟩ := h
  obtain ⟨hk, h2⟩ := List.getElem?_eq_some_iff.mp h1
  rw [List.length_range] at hk
  rw [List.getElem_range] at h2
  subst h2
  exact ⟨hk, by rw [Int.zero_add]⟩
theorem up_len {i : Int} {n : Nat} : (upFrom i n).length = n := by
  unfold upFrom
  rw [List.length_map, List.length_range]
theorem down_get {n i : Nat} {x : D} (h : (stepFrom ((n : Int) - 1) (-1) n)[i]? = some x) : i < n ∧ x = .int ((n - 1 - i : Nat) : Int) := by
  unfold stepFrom at h
  rw [List.getElem?_map, Option.map_eq_some_iff] at h
  obtain ⟨k, h1, rfl⟩ := h
  obtain ⟨hk, h2⟩ := List.getElem?_eq_some_iff.mp h1
  rw [List.length_range] at hk
  rw [List.getElem_range] at h2
  subst h2
  exact ⟨hk, by congr 1; omega⟩
theorem step_len {i c : Int} {n : Nat} : (stepFrom i c n).length = n := by
  unfold stepFrom
  rw [List.length_map, List.length_range]
end DL
/-! ## DL, part 11: slices, lists in the making -/
namespace DL
open PySem
theorem cut_all {α : Type} (xs : List α) : cutD xs none none = xs := by
  unfold cutD
  rw [HT.sIx_none, HT.sIx_none, List.drop_zero, Nat.sub_zero, List.take_length]
theorem cut_to {α : Type} (xs : List α) (b : Nat) : cutD xs none (some (b : Int)) = xs.take b := by
  unfold cutD
  rw [HT.sIx_none, HT.sIx_nat, List.drop_zero, Nat.sub_zero]
  by_cases h : b ≤ xs.length
  · rw [Nat.min_eq_left h]
  · rw [Nat.min_eq_right (by omega), List.take_length, List.take_of_length_le (by omega)]
theorem cut_from {α : Type} (xs : List α) (a : Nat) : cutD xs (some (a : Int)) none = xs.drop a := by
  unfold cutD
  rw [HT.sIx_none, HT.sIx_nat]
  by_cases h : a ≤ xs.length
  · rw [Nat.min_eq_left h, List.take_of_length_le (by rw [List.length_drop]; omega)]
  · rw [Nat.min_eq_right (by omega), Nat.sub_self, List.take_zero, List.drop_of_length_le (by omega)]
theorem cut_nat {α : Type} (xs : List α) (a b : Nat) : cutD xs (some (a : Int)) (some (b : Int)) = (xs.drop a).take (b - a) := by
  unfold cutD
  rw [HT.sIx_nat, HT.sIx_nat]
  by_cases h : a ≤ xs.length
  · rw [Nat.min_eq_left h]
    by_cases h2 : b ≤ xs.length
    · rw [Nat.min_eq_left h2]
    · rw [Nat.min_eq_right (by omega), List.take_of_length_le (by rw [List.length_drop]; omega), List.take_of_length_le (by rw [List.length_drop]; omega)]
  · rw [Nat.min_eq_right (by omega : xs.length ≤ a), List.drop_of_length_le (Nat.le_refl _), List.drop_of_length_le (by omega), List.take_nil, List.take_nil]
@[simp] theorem slice_list {xs : List D} {l u : Option Int} : sliceD (.d (.list xs)) l u = .ok (.own (cutD xs l u)) := rfl
@[simp] theorem slice_own {xs : List D} {l u : Option Int} : sliceD (.own xs) l u = .ok (.own (cutD xs l u)) := rfl
@[simp] theorem slice_tuple {xs : List D} {l u : Option Int} : sliceD (.d (.tuple xs)) l u = .ok (.d (.tuple (cutD xs l u))) := rfl
theorem mapR_cells {ys : List D} : mapR asD (ys.map Cell.d) = .ok ys := by
  rw [mapR_map (g := fun c => match c with | .d x => x | _ => .none)]
  · rw [List.map_map]
    congr 1
    exact List.map_id ys
  · intro c hc
    obtain ⟨y, _, rfl⟩ := List.mem_map.mp hc
    rfl
theorem mapR_rows {ys : List (List D)} : mapR asRow (ys.map Cell.own) = .ok ys := by
  rw [mapR_map (g := fun c => match c with | .own x => x | _ => [])]
  · rw [List.map_map]
    congr 1
    exact List.map_id ys
  · intro c hc
    obtain ⟨y, _, rfl⟩ := List.mem_map.mp hc
    rfl
theorem lcL_cells {ys : List D} (h : ys.length ≤ 16777216) : lcL (.ok (ys.map Cell.d)) = .ok (.own ys) := by
  show (match mapR asD (ys.map Cell.d) with | .ok ds => if ds.length ≤ 16777216 then R.ok (Cell.own ds) else .no | _ => .no) = _
  rw [mapR_cells]
  exact if_pos h
theorem lcR_cells {ys : List (List D)} (h : ys.length ≤ 16777216) : lcR (.ok (ys.map Cell.own)) = .ok (.own2 ys) := by
  show (match mapR asRow (ys.map Cell.own) with | .ok ds => if ds.length ≤ 16777216 then R.ok (Cell.own2 ds) else .no | _ => .no) = _
  rw [mapR_rows]
  exact if_pos h
/-- [f for t in xs if p] -/
theorem lcL_filter {vs : List Nat} {i : Nat} {c : Env → R Bool} {f : Env → R Cell} {xs : List D} {e : Env} {p : D → Bool} {g : D → D} (hl : xs.length ≤ 16777216)
    (hc : ∀ x ∈ xs, c ((wipeC e vs).set i (.d x)) = .ok (p x)) (hf : ∀ x ∈ xs, p x = true → f ((wipeC e vs).set i (.d x)) = .ok (.d (g x))) :
    lcL (lcD vs (.nm i) c f xs e) = .ok (.own ((xs.filter p).map g)) := by
  show lcL (mapIf (fun x => c ((wipeC e vs).set i (.d x))) (fun x => f ((wipeC e vs).set i (.d x))) xs) = _
  rw [mapIf_filter (p := p) (g := fun x => Cell.d (g x)) hc hf]
  have e : (xs.filter p).map (fun x => Cell.d (g x)) = ((xs.filter p).map g).map Cell.d := by rw [List.map_map]; rfl
  rw [e]
  exact lcL_cells (by rw [List.length_map]; exact Nat.le_trans (List.length_filter_le _ _) hl)
theorem lcL_map {vs : List Nat} {i : Nat} {f : Env → R Cell} {xs : List D} {e : Env} {g : D → D} (hl : xs.length ≤ 16777216)
    (hf : ∀ x ∈ xs, f ((wipeC e vs).set i (.d x)) = .ok (.d (g x))) :
    lcL (lcD vs (.nm i) (fun _ => .ok true) f xs e) = .ok (.own (xs.map g)) := by
  have := lcL_filter (vs := vs) (i := i) (c := fun _ => .ok true) (f := f) (e := e) (p := fun _ => true) (g := g) hl (fun _ _ => rfl) (fun x hx _ => hf x hx)
  rw [this, List.filter_eq_self.mpr fun _ _ => rfl]
theorem lcR_map {vs : List Nat} {i : Nat} {f : Env → R Cell} {xs : List D} {e : Env} {g : D → List D} (hl : xs.length ≤ 16777216)
    (hf : ∀ x ∈ xs, f ((wipeC e vs).set i (.d x)) = .ok (.own (g x))) :
    lcR (lcD vs (.nm i) (fun _ => .ok true) f xs e) = .ok (.own2 (xs.map g)) := by
  show lcR (mapIf (fun x => R.ok true) (fun x => f ((wipeC e vs).set i (.d x))) xs) = _
  rw [mapIf_filter (p := fun _ => true) (g := fun x => Cell.own (g x)) (fun _ _ => rfl) (fun x hx _ => hf x hx), List.filter_eq_self.mpr fun _ _ => rfl]
  have e : xs.map (fun x => Cell.own (g x)) = (xs.map g).map Cell.own := by rw [List.map_map]; rfl
  rw [e]
  exact lcR_cells (by rw [List.length_map]; exact hl)
/-- .. when its items are known to be of a kind only -/
theorem lcL_some {α : Type} {em : α → D} {P : α → Prop} {vs : List Nat} {i : Nat} {f : Env → R Cell} {xs : List D} {e : Env} (hl : xs.length ≤ 16777216)
    (hf : ∀ x ∈ xs, ∃ y, P y ∧ f ((wipeC e vs).set i (.d x)) = .ok (.d (em y))) :
    ∃ ys : List α, ys.length = xs.length ∧ (∀ y ∈ ys, P y) ∧ lcL (lcD vs (.nm i) (fun _ => .ok true) f xs e) = .ok (.own (ys.map em)) := by
  have go : ∀ zs : List D, (∀ z ∈ zs, ∃ y, P y ∧ f ((wipeC e vs).set i (.d z)) = .ok (.d (em y))) → ∃ ys : List α, ys.length = zs.length ∧ (∀ y ∈ ys, P y) ∧ lcD vs (.nm i) (fun _ => .ok true) f zs e = .ok ((ys.map em).map Cell.d) := by
    intro zs
    induction zs with
    | nil => exact fun _ => ⟨[], rfl, by simp, rfl⟩
    | cons z zs ih =>
      intro h
      obtain ⟨y, py, hy⟩ := h z List.mem_cons_self
      obtain ⟨ys, l, p, q⟩ := ih fun w hw => h w (List.mem_cons_of_mem _ hw)
      refine ⟨y :: ys, by simp [l], ?_, ?_⟩
      · intro w hw
        rcases List.mem_cons.mp hw with rfl | hw
        · exact py
        · exact p w hw
      · show (R.ok true).bind (fun b => if b = true then (f ((wipeC e vs).set i (.d z))).bind (fun y => (lcD vs (.nm i) (fun _ => .ok true) f zs e).bind fun ys => .ok (y :: ys)) else lcD vs (.nm i) (fun _ => .ok true) f zs e) = _
        rw [R.bind_ok, if_pos rfl, hy, R.bind_ok, q]
        rfl
  obtain ⟨ys, l, p, q⟩ := go xs hf
  exact ⟨ys, l, p, by rw [q]; exact lcL_cells (by rw [List.length_map, l]; exact hl)⟩
theorem setAt_nat {α : Type} {xs : List α} {k : Nat} {a : α} (h : k < xs.length) : setAt xs (k : Int) a = some (xs.set k a) := by
  unfold setAt
  rw [ix_nat h]
  rfl
theorem mulD_one {x : D} {n : Nat} (h : n ≤ 16777216) : mulD (.own [x]) (.d (.int (n : Int))) = .ok (.own (List.replicate n x)) := by
  rw [mulD_own ⟨by omega, by omega, by simp; omega⟩, Int.toNat_natCast]
  have : ∀ m : Nat, (List.replicate m [x]).flatten = List.replicate m x := fun m => by
    induction m with
    | zero => rfl
    | succ m ih => rw [List.replicate_succ, List.flatten_cons, ih]; rfl
  rw [this]
@[simp] theorem wipe_nil {e : Env} : wipeC e [] = e := rfl
@[simp] theorem wipe_cons {e : Env} {i : Nat} {r : List Nat} : wipeC e (i :: r) = (wipeC e r).set i .un := rfl
end DL
/-! ## DL, part 15: how texts reckon -/
namespace DL
open PySem
section
variable {e : Env} {c : Cell} {x y : D} {xs ys : List D} {i j : Int} {n : Nat} {s t : Str} {b : Bool} {l u : Option Int}
@[simp] theorem itemsA_list : itemsA (.d (.list xs)) = .ok xs := rfl
@[simp] theorem itemsA_tuple : itemsA (.d (.tuple xs)) = .ok xs := rfl
@[simp] theorem itemsA_own : itemsA (.own xs) = .ok xs := rfl
@[simp] theorem itemsA_text : itemsA (.d (.str s)) = .ok (s.cps.toList.map fun c => .str ⟨#[c]⟩) := rfl
@[simp] theorem sliceA_list : sliceA (.d (.list xs)) l u = .ok (.own (cutD xs l u)) := rfl
@[simp] theorem sliceA_own : sliceA (.own xs) l u = .ok (.own (cutD xs l u)) := rfl
@[simp] theorem sliceA_tuple : sliceA (.d (.tuple xs)) l u = .ok (.d (.tuple (cutD xs l u))) := rfl
theorem sliceA_text (h : s.length ≤ 16777216) : sliceA (.d (.str s)) l u = .ok (.d (.str (L2.cutS s l u))) := by
  show (if s.length ≤ 16777216 then _ else _) = _
  rw [if_pos h]
@[simp] theorem strC_str : strC (.d (.str s)) = .ok (.d (.str s)) := rfl
theorem splitD_str (h1 : (t.length == 0) = false) (h2 : s.length + 2 ≤ 16777216) : splitD (.d (.str s)) (.d (.str t)) = .ok (.own ((Txt.split s t).map .str)) := by
  show (if _ then _ else _) = _
  rw [if_pos ⟨h1, h2⟩]
theorem strsD_map : ∀ ys : List Str, strsD (ys.map PyData.str) = some ys
  | [] => rfl
  | y :: ys => by
    show (strsD (ys.map PyData.str)).map (y :: ·) = _
    rw [strsD_map ys]; rfl
theorem joinD_own {zs : List Str} (h : (zs.map Str.length).sum + zs.length * s.length ≤ 16777216) : joinD (.d (.str s)) (.own (zs.map PyData.str)) = .ok (.d (.str (Txt.join s zs))) := by
  show (match strsD (zs.map PyData.str) with | some ys => if (ys.map Str.length).sum + ys.length * s.length ≤ 16777216 then R.ok (Cell.d (.str (Txt.join s ys))) else .no | none => .no) = _
  rw [strsD_map]
  exact if_pos h
theorem joinD_list {zs : List Str} (h : (zs.map Str.length).sum + zs.length * s.length ≤ 16777216) : joinD (.d (.str s)) (.d (.list (zs.map PyData.str))) = .ok (.d (.str (Txt.join s zs))) := by
  show (match strsD (zs.map PyData.str) with | some ys => if (ys.map Str.length).sum + ys.length * s.length ≤ 16777216 then R.ok (Cell.d (.str (Txt.join s ys))) else .no | none => .no) = _
  rw [strsD_map]
  exact if_pos h
@[simp] theorem intD_int : intD (.d (.int i)) = .ok (.d (.int i)) := rfl
@[simp] theorem intD_bool : intD (.d (.bool b)) = .ok (.d (.int (if b then 1 else 0))) := rfl
theorem str_shaped (h : SeqAt.shaped (.str s) = true) (h' : SeqAt.shaped (.str t) = true) : eqD (.d (.str s)) (.d (.str t)) = .ok (.d (.bool (decide (s = t)))) := by
  rw [eqD_ok h h']
  congr 3
theorem str_shaped_ne (h : SeqAt.shaped (.str s) = true) (h' : SeqAt.shaped (.str t) = true) : neD (.d (.str s)) (.d (.str t)) = .ok (.d (.bool (!decide (s = t)))) := by
  rw [neD_ok h h']
  congr 3
theorem int_eqD : eqD (.d (.int i)) (.d (.int j)) = .ok (.d (.bool (decide (i = j)))) := by
  rw [eqD_ok rfl rfl]
  congr 3
theorem int_neD : neD (.d (.int i)) (.d (.int j)) = .ok (.d (.bool (!decide (i = j)))) := by
  rw [neD_ok rfl rfl]
  congr 3
theorem rng2_nat {a b : Nat} (ha : a ≤ 16777217) (hb : b ≤ 16777217) : rng2D (.d (.int (a : Int))) (.d (.int (b : Int))) = .ok (upFrom (a : Int) (b - a)) := by
  unfold rng2D
  simp only []
  rw [if_pos (by omega), show ((b : Int) - (a : Int)).toNat = b - a by omega]
end
end DL
/-! ## DL, part 22: data that stand for plain values; loops over them -/
namespace DL
open PySem L2
/-- em writes values as data, == tells them apart -/
structure Enc {α : Type} [DecidableEq α] (em : α → D) (d : Nat) : Prop where
  lay : ∀ a, (em a).canLay0 = true
  dep : ∀ a, (em a).depth ≤ d
  eqs : ∀ a b, PyData.eqv (em a) (em b) = decide (a = b)
@[reducible] def nat (n : Nat) : D := .int (n : Int)
@[reducible] def nats (l : List Nat) : List D := l.map nat
namespace Enc
theorem int : Enc PyData.int 0 := ⟨fun _ => rfl, fun _ => Nat.le_refl 0, fun a b => by
  show (a == b) = _
  rw [Bool.eq_iff_iff, beq_iff_eq, decide_eq_true_eq]⟩
theorem natE : Enc nat 0 := ⟨fun _ => rfl, fun _ => Nat.le_refl 0, fun a b => by
  show ((a : Int) == (b : Int)) = _
  rw [Bool.eq_iff_iff, beq_iff_eq, decide_eq_true_eq]; omega⟩
theorem bool : Enc PyData.bool 0 := ⟨fun _ => rfl, fun _ => Nat.le_refl 0, fun a b => by
  show (a == b) = _
  cases a <;> cases b <;> rfl⟩
section
variable {α : Type} [DecidableEq α] {em : α → D} {d : Nat}
theorem layAll (h : Enc em d) : ∀ xs : List α, PyData.canLayAll0 (xs.map em) = true
  | [] => rfl
  | x :: xs => by
    show ((em x).canLay0 && PyData.canLayAll0 (xs.map em)) = true
    rw [h.lay x, layAll h xs]; rfl
theorem depAll (h : Enc em d) : ∀ xs : List α, PyData.depthAll (xs.map em) ≤ d
  | [] => Nat.zero_le d
  | x :: xs => by
    show max (em x).depth (PyData.depthAll (xs.map em)) ≤ d
    exact Nat.max_le.mpr ⟨h.dep x, depAll h xs⟩
theorem eqAll (h : Enc em d) : ∀ xs ys : List α, PyData.eqvAll (xs.map em) (ys.map em) = decide (xs = ys)
  | [], [] => rfl
  | [], _ :: _ => rfl
  | _ :: _, [] => rfl
  | x :: xs, y :: ys => by
    show (PyData.eqv (em x) (em y) && PyData.eqvAll (xs.map em) (ys.map em)) = _
    rw [h.eqs, eqAll h xs ys, Bool.eq_iff_iff]
    simp
theorem list (h : Enc em d) : Enc (fun xs : List α => PyData.list (xs.map em)) (d + 1) :=
  ⟨fun xs => layAll h xs, fun xs => Nat.succ_le_succ (depAll h xs), fun xs ys => eqAll h xs ys⟩
theorem tuple (h : Enc em d) : Enc (fun xs : List α => PyData.tuple (xs.map em)) (d + 1) :=
  ⟨fun xs => layAll h xs, fun xs => Nat.succ_le_succ (depAll h xs), fun xs ys => eqAll h xs ys⟩
theorem shaped (h : Enc em d) (hd : d ≤ 64) (a : α) : SeqAt.shaped (em a) = true := Bool.and_eq_true_iff.mpr ⟨h.lay a, decide_eq_true (Nat.le_trans (h.dep a) hd)⟩
theorem eqq (h : Enc em d) (hd : d ≤ 64) (a b : α) : eqD (.d (em a)) (.d (em b)) = .ok (.d (.bool (decide (a = b)))) := by rw [eqD_ok (h.shaped hd a) (h.shaped hd b), h.eqs]
theorem ne (h : Enc em d) (hd : d ≤ 64) (a b : α) : neD (.d (em a)) (.d (em b)) = .ok (.d (.bool (!decide (a = b)))) := by rw [neD_ok (h.shaped hd a) (h.shaped hd b), h.eqs]
theorem eqO (h : Enc em d) (hd : d ≤ 63) (xs ys : List α) : eqD (.own (xs.map em)) (.own (ys.map em)) = .ok (.d (.bool (decide (xs = ys)))) := (h.list).eqq (by omega) xs ys
theorem eqOL (h : Enc em d) (hd : d ≤ 63) (xs ys : List α) : eqD (.own (xs.map em)) (.d (.list (ys.map em))) = .ok (.d (.bool (decide (xs = ys)))) := (h.list).eqq (by omega) xs ys
theorem neO (h : Enc em d) (hd : d ≤ 63) (xs ys : List α) : neD (.own (xs.map em)) (.own (ys.map em)) = .ok (.d (.bool (!decide (xs = ys)))) := (h.list).ne (by omega) xs ys
theorem neOL (h : Enc em d) (hd : d ≤ 63) (xs ys : List α) : neD (.own (xs.map em)) (.d (.list (ys.map em))) = .ok (.d (.bool (!decide (xs = ys)))) := (h.list).ne (by omega) xs ys
theorem any_mem (h : Enc em d) (a : α) (xs : List α) : ((xs.map em).any fun z => PyData.eqv z (em a)) = decide (a ∈ xs) := by
  rw [Bool.eq_iff_iff]
  simp only [List.any_eq_true, List.mem_map, decide_eq_true_eq]
  constructor
  · rintro ⟨z, ⟨b, hb, rfl⟩, hz⟩
    rw [h.eqs, decide_eq_true_eq] at hz
    exact hz ▸ hb
  · exact fun ha => ⟨em a, ⟨a, ha, rfl⟩, by rw [h.eqs]; simp⟩
theorem inO (h : Enc em d) (hd : d ≤ 63) (a : α) (xs : List α) : inD (.d (em a)) (.own (xs.map em)) = .ok (.d (.bool (decide (a ∈ xs)))) := by
  show (if _ then R.ok ((xs.map em).any fun z => PyData.eqv z (em a)) else .no).bind _ = _
  rw [if_pos ⟨h.shaped (by omega) a, h.list.shaped (by omega) xs⟩, h.any_mem]
  rfl
theorem notInO (h : Enc em d) (hd : d ≤ 63) (a : α) (xs : List α) : notInD (.d (em a)) (.own (xs.map em)) = .ok (.d (.bool (!decide (a ∈ xs)))) := by
  show (if _ then R.ok ((xs.map em).any fun z => PyData.eqv z (em a)) else .no).bind _ = _
  rw [if_pos ⟨h.shaped (by omega) a, h.list.shaped (by omega) xs⟩, h.any_mem]
  rfl
end
end Enc
/-! ### ranges -/
theorem up_nats (n : Nat) : upFrom 0 n = nats (List.range n) := by
  unfold upFrom
  exact List.map_congr_left fun i _ => by rw [Int.zero_add]
theorem rng_nats {n : Nat} (h : n ≤ 16777217) : rng1D (.d (.int (n : Int))) = .ok (nats (List.range n)) := by rw [rng1_nat h, up_nats]
/-! ### loops -/
theorem forD_fold {α σ J : Type} {em : α → D} {g : D → Env → Out} {E : σ → J → Env} {step : σ → α → σ} (I : σ → Prop) (P : α → Prop)
    (h : ∀ s a j, I s → P a → ∃ j', g (em a) (E s j) = .nx (E (step s a) j') ∧ I (step s a)) :
    ∀ (xs : List α) (s : σ) (j : J), (∀ a ∈ xs, P a) → I s → ∃ j', forD g (xs.map em) (E s j) = .nx (E (xs.foldl step s) j') ∧ I (xs.foldl step s)
  | [], s, j, _, hi => ⟨j, rfl, hi⟩
  | a :: xs, s, j, hp, hi => by
    obtain ⟨j1, h1, h2⟩ := h s a j hi (hp a List.mem_cons_self)
    obtain ⟨j2, h3, h4⟩ := forD_fold I P h xs (step s a) j1 (fun b hb => hp b (List.mem_cons_of_mem _ hb)) h2
    refine ⟨j2, ?_, h4⟩
    show (match g (em a) (E s j) with | .nx e' => forD g (xs.map em) e' | .ct e' => forD g (xs.map em) e' | .bk e' => .nx e' | o => o) = _
    rw [h1]
    exact h3
/-- .. by an invariant that knows how far it is -/
theorem forD_foldI {α σ J : Type} {em : α → D} {g : D → Env → Out} {E : σ → J → Env} {step : σ → α → σ} (I : Nat → σ → Prop) :
    ∀ (xs : List α) (k : Nat), (∀ i s a j, xs[i]? = some a → I (k + i) s → ∃ j', g (em a) (E s j) = .nx (E (step s a) j') ∧ I (k + i + 1) (step s a)) →
    ∀ (s : σ) (j : J), I k s → ∃ j', forD g (xs.map em) (E s j) = .nx (E (xs.foldl step s) j') ∧ I (k + xs.length) (xs.foldl step s)
  | [], k, _, s, j, hi => ⟨j, rfl, hi⟩
  | a :: xs, k, h, s, j, hi => by
    obtain ⟨j1, h1, h2⟩ := h 0 s a j rfl hi
    obtain ⟨j2, h3, h4⟩ := forD_foldI I xs (k + 1) (fun i s b j hb hs => by
      have := h (i + 1) s b j (by simpa using hb) (by rw [show k + (i + 1) = k + 1 + i by omega]; exact hs)
      rw [show k + (i + 1) = k + 1 + i by omega] at this
      exact this) (step s a) j1 h2
    refine ⟨j2, ?_, by rw [List.length_cons, show k + (xs.length + 1) = k + 1 + xs.length by omega]; exact h4⟩
    show (match g (em a) (E s j) with | .nx e' => forD g (xs.map em) e' | .ct e' => forD g (xs.map em) e' | .bk e' => .nx e' | o => o) = _
    rw [h1]
    exact h3
/-- a loop that leaves at the first item with p -/
theorem forD_first {α J : Type} {em : α → D} {g : D → Env → Out} {E : J → Env} {p : α → Bool} {o : Out} (ho : o.stops = true) :
    ∀ (xs : List α) (j : J), (∀ a ∈ xs, ∀ j, if p a = true then g (em a) (E j) = o else ∃ j', g (em a) (E j) = .nx (E j')) → if xs.any p = true then forD g (xs.map em) (E j) = o else ∃ j', forD g (xs.map em) (E j) = .nx (E j')
  | [], j, _ => by rw [if_neg (by simp)]; exact ⟨j, rfl⟩
  | a :: xs, j, h => by
    have ha := h a List.mem_cons_self j
    have un : forD g ((a :: xs).map em) (E j) = (match g (em a) (E j) with | .nx e' => forD g (xs.map em) e' | .ct e' => forD g (xs.map em) e' | .bk e' => .nx e' | o => o) := rfl
    by_cases q : p a = true
    · rw [if_pos q] at ha
      rw [if_pos (by simp [q]), un, ha]
      cases o <;> first | rfl | exact absurd ho (by decide) | (exact absurd ho (by intro h; cases h))
    · rw [if_neg q] at ha
      obtain ⟨j', hj⟩ := ha
      have := forD_first ho xs j' fun b hb => h b (List.mem_cons_of_mem _ hb)
      rw [un, hj]
      have e : (a :: xs).any p = xs.any p := by simp [q]
      rw [e]
      exact this
theorem forD_nx {g : D → Env → Out} {x : D} {xs : List D} {e e' : Env} (h : g x e = .nx e') : forD g (x :: xs) e = forD g xs e' := by
  show (match g x e with | .nx e' => forD g xs e' | .ct e' => forD g xs e' | .bk e' => .nx e' | o => o) = _
  rw [h]
theorem forD_rt {g : D → Env → Out} {x : D} {xs : List D} {e : Env} {c : Cell} (h : g x e = .rt c) : forD g (x :: xs) e = .rt c := by
  show (match g x e with | .nx e' => forD g xs e' | .ct e' => forD g xs e' | .bk e' => .nx e' | o => o) = _
  rw [h]
/-! ### comprehensions -/
theorem lc_of {α : Type} {em : α → D} {vs : List Nat} {i : Nat} {f : Env → R Cell} {xs : List α} {e : Env} {g : α → D} (hl : xs.length ≤ 16777216)
    (hf : ∀ x ∈ xs, f ((wipeC e vs).set i (.d (em x))) = .ok (.d (g x))) :
    lcL (lcD vs (.nm i) (fun _ => .ok true) f (xs.map em) e) = .ok (.own (xs.map g)) := by
  have go : ∀ ys : List α, (∀ x ∈ ys, f ((wipeC e vs).set i (.d (em x))) = .ok (.d (g x))) → lcD vs (.nm i) (fun _ => .ok true) f (ys.map em) e = .ok ((ys.map g).map Cell.d) := by
    intro ys
    induction ys with
    | nil => exact fun _ => rfl
    | cons y ys ih =>
      intro h
      show (R.ok true).bind (fun b => if b = true then (f ((wipeC e vs).set i (.d (em y)))).bind (fun y => (lcD vs (.nm i) (fun _ => .ok true) f (ys.map em) e).bind fun ys => .ok (y :: ys)) else lcD vs (.nm i) (fun _ => .ok true) f (ys.map em) e) = _
      rw [R.bind_ok, if_pos rfl, h y List.mem_cons_self, R.bind_ok, ih fun w hw => h w (List.mem_cons_of_mem _ hw)]
      rfl
  rw [go xs hf]
  exact lcL_cells (by rw [List.length_map]; exact hl)
/-- .. whose items are lists -/
theorem lc_ofO {α : Type} {em : α → D} {vs : List Nat} {i : Nat} {f : Env → R Cell} {xs : List α} {e : Env} {g : α → List D} (hl : xs.length ≤ 16777216)
    (hf : ∀ x ∈ xs, f ((wipeC e vs).set i (.d (em x))) = .ok (.own (g x))) :
    lcL (lcD vs (.nm i) (fun _ => .ok true) f (xs.map em) e) = .ok (.own (xs.map fun x => .list (g x))) := by
  have go : ∀ ys : List α, (∀ x ∈ ys, f ((wipeC e vs).set i (.d (em x))) = .ok (.own (g x))) → lcD vs (.nm i) (fun _ => .ok true) f (ys.map em) e = .ok (ys.map fun x => Cell.own (g x)) := by
    intro ys
    induction ys with
    | nil => exact fun _ => rfl
    | cons y ys ih =>
      intro h
      show (R.ok true).bind (fun b => if b = true then (f ((wipeC e vs).set i (.d (em y)))).bind (fun y => (lcD vs (.nm i) (fun _ => .ok true) f (ys.map em) e).bind fun ys => .ok (y :: ys)) else lcD vs (.nm i) (fun _ => .ok true) f (ys.map em) e) = _
      rw [R.bind_ok, if_pos rfl, h y List.mem_cons_self, R.bind_ok, ih fun w hw => h w (List.mem_cons_of_mem _ hw)]
      rfl
  rw [go xs hf]
  show (match mapR asD (xs.map fun x => Cell.own (g x)) with | .ok ds => if ds.length ≤ 16777216 then R.ok (Cell.own ds) else .no | _ => .no) = _
  rw [show (xs.map fun x => Cell.own (g x)) = (xs.map g).map Cell.own by rw [List.map_map]; rfl, mapR_map (g := fun c => match c with | .own x => PyData.list x | _ => .none) (by
    intro c hc
    obtain ⟨y, _, rfl⟩ := List.mem_map.mp hc
    rfl)]
  rw [List.map_map, List.map_map]
  show (if _ then R.ok (Cell.own _) else .no) = _
  rw [if_pos (by rw [List.length_map]; exact hl)]
  rfl
/-- [f for x in xs if p] -/
theorem lc_if {α : Type} {em : α → D} {vs : List Nat} {i : Nat} {c : Env → R Bool} {f : Env → R Cell} {xs : List α} {e : Env} {p : α → Bool} {g : α → D} (hl : xs.length ≤ 16777216)
    (hc : ∀ x ∈ xs, c ((wipeC e vs).set i (.d (em x))) = .ok (p x)) (hf : ∀ x ∈ xs, p x = true → f ((wipeC e vs).set i (.d (em x))) = .ok (.d (g x))) :
    lcL (lcD vs (.nm i) c f (xs.map em) e) = .ok (.own ((xs.filter p).map g)) := by
  have go : ∀ ys : List α, (∀ x ∈ ys, c ((wipeC e vs).set i (.d (em x))) = .ok (p x)) → (∀ x ∈ ys, p x = true → f ((wipeC e vs).set i (.d (em x))) = .ok (.d (g x))) → lcD vs (.nm i) c f (ys.map em) e = .ok (((ys.filter p).map g).map Cell.d) := by
    intro ys
    induction ys with
    | nil => exact fun _ _ => rfl
    | cons y ys ih =>
      intro h1 h2
      have ih := ih (fun w hw => h1 w (List.mem_cons_of_mem _ hw)) (fun w hw => h2 w (List.mem_cons_of_mem _ hw))
      show (c ((wipeC e vs).set i (.d (em y)))).bind (fun b => if b = true then (f ((wipeC e vs).set i (.d (em y)))).bind (fun y => (lcD vs (.nm i) c f (ys.map em) e).bind fun ys => .ok (y :: ys)) else lcD vs (.nm i) c f (ys.map em) e) = _
      rw [h1 y List.mem_cons_self, R.bind_ok, ih]
      by_cases q : p y = true
      · rw [if_pos q, h2 y List.mem_cons_self q, List.filter_cons_of_pos q]
        rfl
      · rw [if_neg q, List.filter_cons_of_neg q]
  rw [go xs hc hf]
  exact lcL_cells (by rw [List.length_map]; exact Nat.le_trans (List.length_filter_le _ _) hl)
/-! ### items -/
theorem ixO {α : Type} {em : α → D} {xs : List α} {k : Nat} {a : α} (h : xs[k]? = some a) : idxD (.own (xs.map em)) (.d (.int (k : Int))) = .ok (.d (em a)) := idx_own (by rw [List.getElem?_map, h]; rfl)
theorem ixL {α : Type} {em : α → D} {xs : List α} {k : Nat} {a : α} (h : xs[k]? = some a) : idxD (.d (.list (xs.map em))) (.d (.int (k : Int))) = .ok (.d (em a)) := idx_list (by rw [List.getElem?_map, h]; rfl)
theorem ixT {α : Type} {em : α → D} {xs : List α} {k : Nat} {a : α} (h : xs[k]? = some a) : idxD (.d (.tuple (xs.map em))) (.d (.int (k : Int))) = .ok (.d (em a)) := idx_tuple (by rw [List.getElem?_map, h]; rfl)
end DL
/-! ## law k88, plain: numberings, Moore's steps -/
namespace K88
open DL
section
variable {κ : Type} [DecidableEq κ]
def add1 (seen : List κ) (x : κ) : List κ := if x ∈ seen then seen else seen ++ [x]
def seenGo : List κ → List κ → List κ
  | seen, [] => seen
  | seen, x :: xs => seenGo (add1 seen x) xs
def numGo : List κ → List κ → List Nat
  | _, [] => []
  | seen, x :: xs => (add1 seen x).idxOf x :: numGo (add1 seen x) xs
def num (xs : List κ) : List Nat := numGo [] xs
theorem mem_add1 {seen : List κ} {x y : κ} : y ∈ add1 seen x ↔ y ∈ seen ∨ y = x := by
  unfold add1
  by_cases h : x ∈ seen
  · rw [if_pos h]
    exact ⟨.inl, fun q => q.elim id fun e => e ▸ h⟩
  · rw [if_neg h]; simp
theorem idx_old {seen : List κ} {x : κ} (h : x ∈ seen) : (add1 seen x).idxOf x = seen.idxOf x := by rw [add1, if_pos h]
theorem idx_new {seen : List κ} {x : κ} (h : x ∉ seen) : (add1 seen x).idxOf x = seen.length := by
  rw [add1, if_neg h, List.idxOf_append]
  simp [h]
theorem seen_pre : ∀ (xs seen : List κ), ∃ t, seenGo seen xs = seen ++ t
  | [], seen => ⟨[], (List.append_nil _).symm⟩
  | x :: xs, seen => by
    obtain ⟨t, h⟩ := seen_pre xs (add1 seen x)
    show ∃ t, seenGo (add1 seen x) xs = seen ++ t
    rw [h]
    unfold add1
    split
    · exact ⟨t, rfl⟩
    · exact ⟨[x] ++ t, by rw [List.append_assoc]⟩
theorem mem_seen : ∀ (xs seen : List κ) (x : κ), x ∈ xs → x ∈ seenGo seen xs
  | y :: ys, seen, x, h => by
    rcases List.mem_cons.mp h with rfl | h
    · obtain ⟨t, e⟩ := seen_pre ys (add1 seen x)
      show x ∈ seenGo (add1 seen x) ys
      rw [e]
      exact List.mem_append_left _ (mem_add1.mpr (.inr rfl))
    · exact mem_seen ys (add1 seen y) x h
theorem num_map : ∀ (xs seen : List κ), numGo seen xs = xs.map fun x => (seenGo seen xs).idxOf x
  | [], _ => rfl
  | x :: xs, seen => by
    show (add1 seen x).idxOf x :: numGo (add1 seen x) xs = (seenGo (add1 seen x) xs).idxOf x :: xs.map fun y => (seenGo (add1 seen x) xs).idxOf y
    rw [num_map xs (add1 seen x)]
    obtain ⟨t, e⟩ := seen_pre xs (add1 seen x)
    have : (seenGo (add1 seen x) xs).idxOf x = (add1 seen x).idxOf x := by
      rw [e, List.idxOf_append, if_pos (mem_add1.mpr (.inr rfl))]
    rw [this]
theorem num_len (xs : List κ) : (num xs).length = xs.length := by rw [num, num_map, List.length_map]
theorem idx_inj {l : List κ} {x y : κ} (hx : x ∈ l) (hy : y ∈ l) (h : l.idxOf x = l.idxOf y) : x = y := by
  have a := List.idxOf_lt_length_of_mem hx
  have b := List.idxOf_lt_length_of_mem hy
  have c := List.getElem_idxOf a
  have d := List.getElem_idxOf b
  rw [← c, ← d]
  congr 1
theorem num_eq {xs : List κ} {i j : Nat} {x y : κ} (hi : xs[i]? = some x) (hj : xs[j]? = some y) : (num xs).getD i 0 = (num xs).getD j 0 ↔ x = y := by
  have e : ∀ (k : Nat) (z : κ), xs[k]? = some z → (num xs).getD k 0 = (seenGo [] xs).idxOf z := fun k z h => by
    rw [num, num_map, List.getD_eq_getElem?_getD, List.getElem?_map, h]; rfl
  rw [e i x hi, e j y hj]
  exact ⟨idx_inj (mem_seen xs [] x (List.mem_of_getElem? hi)) (mem_seen xs [] y (List.mem_of_getElem? hj)), fun h => by rw [h]⟩
end
def RG : Nat → List Nat → Prop
  | _, [] => True
  | m, g :: gs => (g < m ∧ RG m gs) ∨ (g = m ∧ RG (m + 1) gs)
def cnt : Nat → List Nat → Nat
  | m, [] => m
  | m, g :: gs => if g < m then cnt m gs else cnt (m + 1) gs
theorem num_rg {κ : Type} [DecidableEq κ] : ∀ (xs seen : List κ), RG seen.length (numGo seen xs)
  | [], _ => trivial
  | x :: xs, seen => by
    show ((add1 seen x).idxOf x < seen.length ∧ RG seen.length (numGo (add1 seen x) xs)) ∨ _
    by_cases h : x ∈ seen
    · have := num_rg xs seen
      rw [idx_old h, show add1 seen x = seen from if_pos h]
      exact .inl ⟨List.idxOf_lt_length_of_mem h, this⟩
    · have := num_rg xs (add1 seen x)
      rw [idx_new h]
      rw [show (add1 seen x).length = seen.length + 1 by rw [add1, if_neg h]; simp] at this
      exact .inr ⟨rfl, this⟩
theorem cnt_le : ∀ (gs : List Nat) (m : Nat), m ≤ cnt m gs ∧ cnt m gs ≤ m + gs.length
  | [], m => ⟨Nat.le_refl _, Nat.le_refl _⟩
  | g :: gs, m => by
    have h1 := cnt_le gs m
    have h2 := cnt_le gs (m + 1)
    unfold cnt
    split <;> simp only [List.length_cons] <;> omega
theorem rg_lt : ∀ (gs : List Nat) (m : Nat), RG m gs → ∀ g ∈ gs, g < cnt m gs
  | x :: gs, m, h, g, hg => by
    rcases h with ⟨h1, h2⟩ | ⟨h1, h2⟩
    · rw [cnt, if_pos h1]
      rcases List.mem_cons.mp hg with rfl | hg
      · exact Nat.lt_of_lt_of_le h1 (cnt_le gs m).1
      · exact rg_lt gs m h2 g hg
    · rw [cnt, if_neg (by omega)]
      rcases List.mem_cons.mp hg with rfl | hg
      · have := (cnt_le gs (m + 1)).1; omega
      · exact rg_lt gs (m + 1) h2 g hg
theorem rg_max : ∀ (gs : List Nat) (m : Nat), RG (m + 1) gs → (gs.map fun n : Nat => (n : Int)).foldl max (m : Int) = (cnt (m + 1) gs : Int) - 1
  | [], m, _ => by show (m : Int) = ((m + 1 : Nat) : Int) - 1; omega
  | g :: gs, m, h => by
    rcases h with ⟨h1, h2⟩ | ⟨h1, h2⟩
    · rw [cnt, if_pos h1, ← rg_max gs m h2, List.map_cons, List.foldl_cons, show max (m : Int) (g : Int) = (m : Int) by omega]
    · rw [cnt, if_neg (by omega), ← rg_max gs (m + 1) h2, List.map_cons, List.foldl_cons, show max (m : Int) (g : Int) = ((m + 1 : Nat) : Int) by omega]
/-- a finer and a coarser numbering, side by side -/
def FunP (ps : List (Nat × Nat)) : Prop := ∀ h g g', (h, g) ∈ ps → (h, g') ∈ ps → g = g'
theorem gap : ∀ (zs ps : List (Nat × Nat)) (m k : Nat), RG m (zs.map (·.1)) → RG k (zs.map (·.2)) → FunP (ps ++ zs) → (∀ h < m, ∃ g < k, (h, g) ∈ ps) → m + cnt k (zs.map (·.2)) ≤ k + cnt m (zs.map (·.1))
  | [], ps, m, k, _, _, _, _ => by show m + k ≤ k + m; omega
  | (h, g) :: zs, ps, m, k, h1, h2, hf, hs => by
    have hf' : FunP ((ps ++ [(h, g)]) ++ zs) := by rw [List.append_assoc]; exact hf
    have here : (h, g) ∈ ps ++ (h, g) :: zs := List.mem_append_right _ List.mem_cons_self
    show m + (if g < k then cnt k (zs.map (·.2)) else cnt (k + 1) (zs.map (·.2))) ≤ k + (if h < m then cnt m (zs.map (·.1)) else cnt (m + 1) (zs.map (·.1)))
    rcases h1 with ⟨q1, r1⟩ | ⟨q1, r1⟩
    · obtain ⟨g', l, hm⟩ := hs h q1
      have e : g = g' := hf h g g' here (List.mem_append_left _ hm)
      rcases h2 with ⟨q2, r2⟩ | ⟨q2, r2⟩
      · rw [if_pos (show h < m from q1), if_pos (show g < k from q2)]
        exact gap zs (ps ++ [(h, g)]) m k r1 r2 hf' fun x hx => (hs x hx).imp fun y hy => ⟨hy.1, List.mem_append_left _ hy.2⟩
      · have q2' : g = k := q2
        omega
    · have q1' : h = m := q1
      rw [if_neg (show ¬ h < m by omega)]
      rcases h2 with ⟨q2, r2⟩ | ⟨q2, r2⟩
      · have q2' : g < k := q2
        rw [if_pos q2']
        have := gap zs (ps ++ [(h, g)]) (m + 1) k r1 r2 hf' fun x hx => by
          rcases Nat.lt_or_ge x m with l | l
          · exact (hs x l).imp fun y hy => ⟨hy.1, List.mem_append_left _ hy.2⟩
          · exact ⟨g, q2', by rw [show x = h by omega]; exact List.mem_append_right _ List.mem_cons_self⟩
        omega
      · have q2' : g = k := q2
        rw [if_neg (show ¬ g < k by omega)]
        have := gap zs (ps ++ [(h, g)]) (m + 1) (k + 1) r1 r2 hf' fun x hx => by
          rcases Nat.lt_or_ge x m with l | l
          · exact (hs x l).imp fun y hy => ⟨by omega, List.mem_append_left _ hy.2⟩
          · exact ⟨g, by omega, by rw [show x = h by omega]; exact List.mem_append_right _ List.mem_cons_self⟩
        omega
theorem same : ∀ (zs ps : List (Nat × Nat)) (m : Nat), RG m (zs.map (·.1)) → RG m (zs.map (·.2)) → FunP (ps ++ zs) → (∀ h < m, (h, h) ∈ ps) → cnt m (zs.map (·.1)) = cnt m (zs.map (·.2)) → zs.map (·.1) = zs.map (·.2)
  | [], _, _, _, _, _, _, _ => rfl
  | (h, g) :: zs, ps, m, h1, h2, hf, hs, hc => by
    have hf' : FunP ((ps ++ [(h, g)]) ++ zs) := by rw [List.append_assoc]; exact hf
    have here : (h, g) ∈ ps ++ (h, g) :: zs := List.mem_append_right _ List.mem_cons_self
    have hc' : (if h < m then cnt m (zs.map (·.1)) else cnt (m + 1) (zs.map (·.1))) = (if g < m then cnt m (zs.map (·.2)) else cnt (m + 1) (zs.map (·.2))) := hc
    show h :: zs.map (·.1) = g :: zs.map (·.2)
    rcases h1 with ⟨q1, r1⟩ | ⟨q1, r1⟩
    · have e : g = h := hf h g h here (List.mem_append_left _ (hs h q1))
      have q1' : h < m := q1
      rw [if_pos q1', if_pos (by omega)] at hc'
      rcases h2 with ⟨q2, r2⟩ | ⟨q2, r2⟩
      · rw [e, same zs (ps ++ [(h, g)]) m r1 r2 hf' (fun x hx => List.mem_append_left _ (hs x hx)) hc']
      · have : g = m := q2
        omega
    · have q1' : h = m := q1
      rw [if_neg (by omega)] at hc'
      rcases h2 with ⟨q2, r2⟩ | ⟨q2, r2⟩
      · have q2' : g < m := q2
        rw [if_pos q2'] at hc'
        have := gap zs (ps ++ [(h, g)]) (m + 1) m r1 r2 hf' fun x hx => by
          rcases Nat.lt_or_ge x m with l | l
          · exact ⟨x, l, List.mem_append_left _ (hs x l)⟩
          · exact ⟨g, q2', by rw [show x = h by omega]; exact List.mem_append_right _ List.mem_cons_self⟩
        omega
      · have q2' : g = m := q2
        rw [if_neg (by omega)] at hc'
        rw [q1', q2', same zs (ps ++ [(h, g)]) (m + 1) r1 r2 hf' (fun x hx => by
          rcases Nat.lt_or_ge x m with l | l
          · exact List.mem_append_left _ (hs x l)
          · rw [show x = h by omega, show (h, h) = (h, g) by rw [q1', q2']]; exact List.mem_append_right _ List.mem_cons_self) hc']
/-- the finer numbering has more numbers, or is the coarser -/
theorem finer {H G : List Nat} (hl : H.length = G.length) (h1 : RG 0 H) (h2 : RG 0 G) (hf : ∀ i < H.length, ∀ j < H.length, H.getD i 0 = H.getD j 0 → G.getD i 0 = G.getD j 0) : cnt 0 G ≤ cnt 0 H ∧ (cnt 0 H = cnt 0 G → H = G) := by
  have e1 : (H.zip G).map (·.1) = H := List.map_fst_zip (by omega)
  have e2 : (H.zip G).map (·.2) = G := List.map_snd_zip (by omega)
  have ff : FunP ([] ++ H.zip G) := fun h g g' a b => by
    rw [List.nil_append] at a b
    obtain ⟨i, hi⟩ := List.getElem?_of_mem a
    obtain ⟨j, hj⟩ := List.getElem?_of_mem b
    rw [List.getElem?_zip_eq_some] at hi hj
    have li := (List.getElem?_eq_some_iff.mp hi.1).1
    have lj := (List.getElem?_eq_some_iff.mp hj.1).1
    have := hf i li j lj (by simp [List.getD_eq_getElem?_getD, hi.1, hj.1])
    simpa [List.getD_eq_getElem?_getD, hi.2, hj.2] using this
  have g1 := gap (H.zip G) [] 0 0 (by rw [e1]; exact h1) (by rw [e2]; exact h2) ff fun x hx => absurd hx (Nat.not_lt_zero _)
  rw [e1, e2] at g1
  refine ⟨by omega, fun hc => ?_⟩
  have g2 := same (H.zip G) [] 0 (by rw [e1]; exact h1) (by rw [e2]; exact h2) ff (fun x hx => absurd hx (Nat.not_lt_zero _)) (by rw [e1, e2]; exact hc)
  rw [e1, e2] at g2
  exact g2
/-! ### Moore's steps -/
def keyAt (S : List (List Nat)) (G : List Nat) (a : Nat) : Nat × List Int := (G.getD a 0, usort ((S.getD a []).map fun c => ((G.getD c 0 : Nat) : Int)))
def fine (S : List (List Nat)) (G : List Nat) : List Nat := num ((List.range S.length).map (keyAt S G))
def gr (V : List Int) (S : List (List Nat)) : Nat → List Nat
  | 0 => num V
  | i + 1 => fine S (gr V S i)
theorem fine_len {S : List (List Nat)} {G : List Nat} : (fine S G).length = S.length := by rw [fine, num_len]; simp
theorem gr_len {V : List Int} {S : List (List Nat)} (h : V.length = S.length) (i : Nat) : (gr V S i).length = S.length := by
  cases i with
  | zero => exact (num_len V).trans h
  | succ i => exact fine_len
theorem gr_rg {V : List Int} {S : List (List Nat)} (i : Nat) : RG 0 (gr V S i) := by
  cases i with
  | zero => exact num_rg V []
  | succ i => exact num_rg _ []
theorem usort_iff {l m : List Int} : usort l = usort m ↔ ∀ x, x ∈ l ↔ x ∈ m := by
  constructor
  · intro h x
    rw [← usort_mem l x, ← usort_mem m x, h]
  · exact fun h => usort_eq (fun x => (usort_mem l x).trans (h x)) (usort_sorted l)
theorem fine_eq {S : List (List Nat)} {G : List Nat} {a b : Nat} (ha : a < S.length) (hb : b < S.length) : (fine S G).getD a 0 = (fine S G).getD b 0 ↔ G.getD a 0 = G.getD b 0 ∧ (∀ c ∈ S.getD a [], ∃ d ∈ S.getD b [], G.getD c 0 = G.getD d 0) ∧ ∀ d ∈ S.getD b [], ∃ c ∈ S.getD a [], G.getD c 0 = G.getD d 0 := by
  have e : ∀ k < S.length, ((List.range S.length).map (keyAt S G))[k]? = some (keyAt S G k) := fun k hk => by
    rw [List.getElem?_map, List.getElem?_range hk]; rfl
  rw [fine, num_eq (e a ha) (e b hb)]
  unfold keyAt
  rw [Prod.mk.injEq, usort_iff]
  constructor
  · rintro ⟨h1, h2⟩
    refine ⟨h1, fun c hc => ?_, fun d hd => ?_⟩
    · obtain ⟨d, hd, e⟩ := List.mem_map.mp ((h2 _).mp (List.mem_map.mpr ⟨c, hc, rfl⟩))
      exact ⟨d, hd, by omega⟩
    · obtain ⟨c, hc, e⟩ := List.mem_map.mp ((h2 _).mpr (List.mem_map.mpr ⟨d, hd, rfl⟩))
      exact ⟨c, hc, by omega⟩
  · rintro ⟨h1, h2, h3⟩
    refine ⟨h1, fun x => ⟨fun hx => ?_, fun hx => ?_⟩⟩
    · obtain ⟨c, hc, rfl⟩ := List.mem_map.mp hx
      obtain ⟨d, hd, e⟩ := h2 c hc
      exact List.mem_map.mpr ⟨d, hd, by omega⟩
    · obtain ⟨d, hd, rfl⟩ := List.mem_map.mp hx
      obtain ⟨c, hc, e⟩ := h3 d hd
      exact List.mem_map.mpr ⟨c, hc, by omega⟩
theorem gr_finer {V : List Int} {S : List (List Nat)} (h : V.length = S.length) (i : Nat) : cnt 0 (gr V S i) ≤ cnt 0 (gr V S (i + 1)) ∧ (cnt 0 (gr V S (i + 1)) = cnt 0 (gr V S i) → gr V S (i + 1) = gr V S i) :=
  finer (by rw [gr_len h, gr_len h]) (gr_rg _) (gr_rg _) fun a ha b hb e => by
    rw [gr_len h] at ha hb
    exact ((fine_eq ha hb).mp e).1
theorem least (p : Nat → Prop) [DecidablePred p] : ∀ n, p n → ∃ k ≤ n, p k ∧ ∀ i < k, ¬p i
  | n, h => by
    by_cases q : ∃ j, j < n ∧ p j
    · obtain ⟨j, hj, pj⟩ := q
      obtain ⟨k, a, b, c⟩ := least p j pj
      exact ⟨k, by omega, b, c⟩
    · exact ⟨n, Nat.le_refl _, h, fun i hi pi => q ⟨i, hi, pi⟩⟩
termination_by n => n
theorem stop {V : List Int} {S : List (List Nat)} (h : V.length = S.length) : ∃ k ≤ S.length, gr V S (k + 1) = gr V S k ∧ ∀ i < k, gr V S (i + 1) ≠ gr V S i := by
  have : ∃ n ≤ S.length, gr V S (n + 1) = gr V S n := by
    false_or_by_contra
    rename_i no
    have up : ∀ n, n ≤ S.length + 1 → n ≤ cnt 0 (gr V S n) := by
      intro n
      induction n with
      | zero => exact fun _ => Nat.zero_le _
      | succ n ih =>
        intro hn
        have a := ih (by omega)
        obtain ⟨b, c⟩ := gr_finer h n
        have d : cnt 0 (gr V S (n + 1)) ≠ cnt 0 (gr V S n) := fun e => no ⟨n, by omega, c e⟩
        omega
    have a := up (S.length + 1) (Nat.le_refl _)
    have b := (cnt_le (gr V S (S.length + 1)) 0).2
    rw [gr_len h] at b
    omega
  obtain ⟨n, hn, e⟩ := this
  obtain ⟨k, hk, e', m⟩ := least (fun n => gr V S (n + 1) = gr V S n) n e
  exact ⟨k, by omega, e', m⟩
theorem stop_cnt {V : List Int} {S : List (List Nat)} (h : V.length = S.length) (i : Nat) : cnt 0 (gr V S (i + 1)) = cnt 0 (gr V S i) ↔ gr V S (i + 1) = gr V S i := ⟨(gr_finer h i).2, fun e => by rw [e]⟩
/-! ### apart -/
def apart (G : List Nat) (a b : Nat) : Bool := !decide (G.getD a 0 = G.getD b 0)
theorem apart_step {S : List (List Nat)} {G : List Nat} {a b : Nat} (ha : a < S.length) (hb : b < S.length) :
    (apart G a b || ((!decide ((S.getD a []).filter (fun c => decide (((S.getD b []).filter (fun d => !apart G c d)).length = 0)) = [])) || !decide ((S.getD b []).filter (fun d => decide (((S.getD a []).filter (fun c => !apart G c d)).length = 0)) = []))) = apart (fine S G) a b := by
  have i1 : ((S.getD a []).filter (fun c => decide (((S.getD b []).filter (fun d => !apart G c d)).length = 0)) = []) ↔ ∀ c ∈ S.getD a [], ∃ d ∈ S.getD b [], G.getD c 0 = G.getD d 0 := by
    rw [List.filter_eq_nil_iff]
    refine forall_congr' fun c => forall_congr' fun hc => ?_
    rw [decide_eq_true_eq, List.length_eq_zero_iff, List.filter_eq_nil_iff]
    simp [apart]
  have i2 : ((S.getD b []).filter (fun d => decide (((S.getD a []).filter (fun c => !apart G c d)).length = 0)) = []) ↔ ∀ d ∈ S.getD b [], ∃ c ∈ S.getD a [], G.getD c 0 = G.getD d 0 := by
    rw [List.filter_eq_nil_iff]
    refine forall_congr' fun c => forall_congr' fun hc => ?_
    rw [decide_eq_true_eq, List.length_eq_zero_iff, List.filter_eq_nil_iff]
    simp [apart]
  have i3 := fine_eq (G := G) ha hb
  rw [Bool.eq_iff_iff]
  unfold apart at i1 i2 ⊢
  simp only [Bool.or_eq_true, Bool.not_eq_true', decide_eq_false_iff_not]
  rw [i1, i2, i3]
  have fin : ∀ P1 P2 P3 : Prop, (¬P1 ∨ ¬P2 ∨ ¬P3) ↔ ¬(P1 ∧ P2 ∧ P3) := fun P1 P2 P3 => by
    by_cases a : P1 <;> by_cases b : P2 <;> by_cases c : P3 <;> simp [a, b, c]
  exact fin _ _ _
def table (n : Nat) (G : List Nat) : List (List Bool) := (List.range n).map fun a => (List.range n).map fun b => apart G a b
theorem table_eq {V : List Int} {S : List (List Nat)} (h : V.length = S.length) (i : Nat) : table S.length (gr V S (i + 1)) = table S.length (gr V S i) ↔ gr V S (i + 1) = gr V S i := by
  refine ⟨fun e => ?_, fun e => by rw [e]⟩
  have p : ∀ a < S.length, ∀ b < S.length, apart (gr V S (i + 1)) a b = apart (gr V S i) a b := fun a ha b hb => by
    have e1 := congrArg (fun t => (t[a]?.getD [])[b]?) e
    simp only [table, List.getElem?_map, List.getElem?_range ha, List.getElem?_range hb, Option.map_some, Option.getD_some] at e1
    exact Option.some.inj e1
  have f : cnt 0 (gr V S (i + 1)) ≤ cnt 0 (gr V S i) := (finer (H := gr V S i) (G := gr V S (i + 1)) (by rw [gr_len h, gr_len h]) (gr_rg _) (gr_rg _) fun a ha b hb q => by
    rw [gr_len h] at ha hb
    have := p a ha b hb
    unfold apart at this
    simp only [q, decide_true, Bool.not_true, Bool.not_eq_false'] at this
    exact of_decide_eq_true (by simpa using this)).1
  obtain ⟨x, y⟩ := gr_finer h i
  exact y (by omega)
/-! ### the first of each group -/
def fstStep (G : List Nat) (fs : List Nat) (a : Nat) : List Nat := if G.getD a 0 = fs.length then fs ++ [a] else fs
def firsts (G : List Nat) (n : Nat) : List Nat := (List.range n).foldl (fstStep G) []
theorem firsts_succ {G : List Nat} {n : Nat} : firsts G (n + 1) = fstStep G (firsts G n) n := by rw [firsts, List.range_succ, List.foldl_append]; rfl
theorem rg_snoc : ∀ (xs : List Nat) (m g : Nat), RG m (xs ++ [g]) → g ≤ cnt m xs ∧ cnt m (xs ++ [g]) = (if g = cnt m xs then cnt m xs + 1 else cnt m xs) ∧ RG m xs
  | [], m, g, h => by
    rcases h with ⟨a, _⟩ | ⟨a, _⟩
    · exact ⟨Nat.le_of_lt a, by show (if g < m then m else m + 1) = (if g = m then m + 1 else m); rw [if_pos a, if_neg (by omega)], trivial⟩
    · exact ⟨Nat.le_of_eq a, by show (if g < m then m else m + 1) = (if g = m then m + 1 else m); rw [if_neg (by omega), if_pos a], trivial⟩
  | x :: xs, m, g, h => by
    rcases h with ⟨a, b⟩ | ⟨a, b⟩
    · have := rg_snoc xs m g b
      have e1 : cnt m (x :: xs) = cnt m xs := if_pos a
      have e2 : cnt m (x :: xs ++ [g]) = cnt m (xs ++ [g]) := if_pos a
      rw [e1, e2]
      exact ⟨this.1, this.2.1, .inl ⟨a, this.2.2⟩⟩
    · have := rg_snoc xs (m + 1) g b
      have a' : ¬ x < m := by have : x = m := a; omega
      have e1 : cnt m (x :: xs) = cnt (m + 1) xs := if_neg a'
      have e2 : cnt m (x :: xs ++ [g]) = cnt (m + 1) (xs ++ [g]) := if_neg a'
      rw [e1, e2]
      exact ⟨this.1, this.2.1, .inr ⟨a, this.2.2⟩⟩
theorem take_snoc {G : List Nat} {n : Nat} (h : n < G.length) : G.take (n + 1) = G.take n ++ [G.getD n 0] := by
  rw [List.take_succ, List.getElem?_eq_getElem h]
  simp [List.getD_eq_getElem?_getD, h]
theorem rg_take {G : List Nat} (hr : RG 0 G) : ∀ n, n ≤ G.length → RG 0 (G.take n) := by
  have go : ∀ d n, n + d = G.length → RG 0 (G.take n) := by
    intro d
    induction d with
    | zero => intro n h; rw [List.take_of_length_le (by omega)]; exact hr
    | succ d ih =>
      intro n h
      have := ih (n + 1) (by omega)
      rw [take_snoc (by omega)] at this
      exact (rg_snoc _ _ _ this).2.2
  exact fun n h => go (G.length - n) n (by omega)
theorem firsts_len {G : List Nat} (hr : RG 0 G) : ∀ n, n ≤ G.length → (firsts G n).length = cnt 0 (G.take n)
  | 0, _ => by simp [firsts, cnt]
  | n + 1, h => by
    have ih := firsts_len hr n (by omega)
    have t := rg_take hr (n + 1) h
    rw [take_snoc (by omega)] at t ⊢
    obtain ⟨a, b, c⟩ := rg_snoc _ _ _ t
    rw [firsts_succ, b, fstStep, ih]
    split
    · rw [List.length_append, ih]; rfl
    · exact ih
theorem firsts_le {G : List Nat} (hr : RG 0 G) {n : Nat} (h : n < G.length) : G.getD n 0 ≤ (firsts G n).length := by
  have t := rg_take hr (n + 1) h
  rw [take_snoc (by omega)] at t
  rw [firsts_len hr n (by omega)]
  exact (rg_snoc _ _ _ t).1
theorem firsts_get {G : List Nat} : ∀ (n j a : Nat), (firsts G n)[j]? = some a → G.getD a 0 = j ∧ a < n
  | 0, j, a, h => by simp [firsts] at h
  | n + 1, j, a, h => by
    rw [firsts_succ, fstStep] at h
    split at h
    · rename_i q
      rw [List.getElem?_append] at h
      split at h
      · have := firsts_get n j a h; exact ⟨this.1, by omega⟩
      · rw [List.getElem?_singleton] at h
        split at h
        · cases h; exact ⟨by omega, by omega⟩
        · cases h
    · have := firsts_get n j a h; exact ⟨this.1, by omega⟩
/-- which of the firsts is like a -/
theorem like_filter {G fs : List Nat} {a : Nat} (hf : ∀ j b, fs[j]? = some b → G.getD b 0 = j) : (List.range fs.length).filter (fun j => !apart G (fs.getD j 0) a) = if G.getD a 0 < fs.length then [G.getD a 0] else [] := by
  have e : (List.range fs.length).filter (fun j => !apart G (fs.getD j 0) a) = (List.range fs.length).filter (fun j => decide (j = G.getD a 0)) := by
    refine List.filter_congr fun j hj => ?_
    have lj := List.mem_range.mp hj
    have h1 : fs[j]? = some (fs.getD j 0) := by rw [List.getElem?_eq_getElem lj]; simp [List.getD_eq_getElem?_getD, lj]
    unfold apart
    rw [hf j _ h1, Bool.not_not]
  rw [e]
  generalize G.getD a 0 = g
  generalize fs.length = n
  induction n with
  | zero => simp
  | succ n ih =>
    rw [List.range_succ, List.filter_append, ih]
    by_cases q : n = g
    · subst q; simp
    · rw [List.filter_cons_of_neg (by simpa using q)]
      by_cases l : g < n
      · rw [if_pos l, if_pos (by omega)]; rfl
      · rw [if_neg l, if_neg (by omega)]; rfl
end K88
/-! ## DL, part 26: dicts of what was seen, for the mathematics -/
namespace DL
open PySem L2
open K88 (add1 seenGo)
theorem fold_snoc' {α β : Type} (f : α → β) : ∀ (xs : List α) (s : List β), xs.foldl (fun s a => s ++ [f a]) s = s ++ xs.map f
  | [], s => by simp
  | x :: xs, s => by rw [List.foldl_cons, fold_snoc' f xs, List.map_cons, List.append_assoc]; rfl
theorem getS {α : Type} {l : List α} {k : Nat} {z : α} (h : k < l.length) : l[k]? = some (l.getD k z) := by
  rw [List.getElem?_eq_getElem h, List.getD_eq_getElem?_getD, List.getElem?_eq_getElem h]; rfl
section
variable {κ : Type} [DecidableEq κ] {em : κ → D} {kk : κ → NestedKey} {val : Nat → D}
def seenD (em : κ → D) (val : Nat → D) (k : Nat) (seen : List κ) : List (D × D) := (seen.zipIdx k).map fun p => (em p.1, val p.2)
structure Keyed (em : κ → D) (kk : κ → NestedKey) : Prop where
  top : ∀ x, keyTop (em x) = some (kk x)
  inj : ∀ x y, kk x = kk y → x = y
  tup : ∀ x y, isTup (em x) = isTup (em y)
theorem seen_get (h : Keyed em kk) (x : κ) : ∀ (seen : List κ) (k : Nat), dget (seenD em val k seen) (kk x) = if x ∈ seen then some (val (k + seen.idxOf x)) else none
  | [], k => rfl
  | y :: seen, k => by
    have ih := seen_get h x seen (k + 1)
    unfold dget seenD at ih ⊢
    rw [List.zipIdx_cons, List.map_cons, List.find?_cons]
    by_cases q : y = x
    · subst q
      rw [show decide (keyTop (em y) = some (kk y)) = true from decide_eq_true (h.top y)]
      simp
    · have e : decide (keyTop (em y) = some (kk x)) = false := decide_eq_false fun e => q (h.inj y x (Option.some.inj ((h.top y).symm.trans e)))
      simp only [e]
      rw [ih]
      by_cases m : x ∈ seen
      · rw [if_pos m, if_pos (List.mem_cons_of_mem _ m), List.idxOf_cons, show (y == x) = false by simpa using q]
        simp only [cond_false]
        rw [show k + 1 + List.idxOf x seen = k + (List.idxOf x seen + 1) by omega]
      · rw [if_neg m, if_neg (by simp [m, Ne.symm q])]
theorem seen_key (h : Keyed em kk) (x : κ) (seen : List κ) (k : Nat) : asKey (em x) (seenD em val k seen) = some (kk x) := by
  unfold asKey kindOk
  rw [h.top x]
  have : ((seenD em val k seen).all fun p => isTup p.1 == isTup (em x)) = true := by
    rw [List.all_eq_true]
    intro p hp
    obtain ⟨q, _, rfl⟩ := List.mem_map.mp hp
    show (isTup (em q.1) == isTup (em x)) = true
    rw [h.tup q.1 x]
    simp
  simp only [this, if_true]
theorem seen_put (h : Keyed em kk) {x : κ} {seen : List κ} (hx : x ∉ seen) (hl : seen.length < 16777216) : putDD (seenD em val 0 seen) (em x) (val seen.length) = some (seenD em val 0 (seen ++ [x])) := by
  unfold putDD
  rw [seen_key h]
  have l : (seenD em val 0 seen).length = seen.length := by simp [seenD]
  show (if _ then some (dput _ _ _ _) else none) = _
  rw [if_pos (by rw [l]; exact hl)]
  unfold dput
  rw [seen_get h, if_neg hx, if_neg (by simp)]
  unfold seenD
  rw [List.zipIdx_append, List.map_append]
  simp
theorem seen_notIn (h : Keyed em kk) (x : κ) (seen : List κ) : notInDD (.d (em x)) (.dic (seenD em val 0 seen)) = .ok (.d (.bool (!decide (x ∈ seen)))) := by
  show (match asKey (em x) (seenD em val 0 seen) with | some k => R.ok (Cell.d (.bool (!(dget (seenD em val 0 seen) k).isSome))) | none => .no) = _
  rw [seen_key h]
  show R.ok (Cell.d (.bool (!(dget (seenD em val 0 seen) (kk x)).isSome))) = _
  rw [seen_get h]
  by_cases m : x ∈ seen
  · rw [if_pos m, decide_eq_true m]; rfl
  · rw [if_neg m, decide_eq_false m]; rfl
theorem seen_ix (h : Keyed em kk) {x : κ} {seen : List κ} (m : x ∈ seen) : ixDD (.dic (seenD em val 0 seen)) (.d (em x)) = .ok (.d (val (seen.idxOf x))) := by
  show (match asKey (em x) (seenD em val 0 seen) with | some k => (match dget (seenD em val 0 seen) k with | some yd => R.ok (Cell.d yd) | none => .no) | none => .no) = _
  rw [seen_key h]
  show (match dget (seenD em val 0 seen) (kk x) with | some yd => R.ok (Cell.d yd) | none => .no) = _
  rw [seen_get h, if_pos m, Nat.zero_add]
theorem seen_len (seen : List κ) : lenDD (.dic (seenD em val 0 seen)) = .ok (.d (.int (seen.length : Int))) := by
  show R.ok (Cell.d (.int (seenD em val 0 seen).length)) = _
  simp [seenD]
theorem seen_one (h : Keyed em kk) (x : κ) : d1D (.d (em x)) (.d (val 0)) = .ok (.dic (seenD em val 0 [x])) := by
  have := seen_key (val := val) h x [] 0
  unfold seenD at this
  unfold d1D
  show (match asKey (em x) [] with | some _ => R.ok (Cell.dic [(em x, val 0)]) | none => .no) = _
  rw [show asKey (em x) [] = some (kk x) from this]
  rfl
end
theorem nat_key : Keyed nat (fun i : Nat => .num (i : Int)) := ⟨fun x => rfl, fun x y h => by injection h with h; omega, fun _ _ => rfl⟩
theorem keys_nats : ∀ l : List Nat, DL.keysOf (nats l) = some (l.map fun i : Nat => NestedKey.num (i : Int))
  | [] => rfl
  | x :: l => by
    show (match DL.keyOf (nat x), DL.keysOf (nats l) with | some k, some ks => some (k :: ks) | _, _ => none) = _
    rw [keys_nats l]
    rfl
theorem nums_dep : ∀ l : List Nat, NestedKey.depthAll (l.map fun i : Nat => NestedKey.num (i : Int)) = 0
  | [] => by rfl
  | x :: l => by
    have : NestedKey.depthAll ((x :: l).map fun i : Nat => NestedKey.num (i : Int)) = max (NestedKey.depth (.num (x : Int))) (NestedKey.depthAll (l.map fun i : Nat => NestedKey.num (i : Int))) := by simp [NestedKey.depthAll]
    rw [this, nums_dep l]
    rfl
theorem nums_inj' : ∀ l m : List Nat, (l.map fun i : Nat => NestedKey.num (i : Int)) = (m.map fun i : Nat => NestedKey.num (i : Int)) → l = m
  | [], [], _ => rfl
  | [], _ :: _, h => by cases h
  | _ :: _, [], h => by cases h
  | x :: l, y :: m, h => by
    rw [List.map_cons, List.map_cons] at h
    injection h with a b
    injection a with a
    rw [show x = y by omega, nums_inj' l m b]
/-- (g, (n, ..)) -/
def gkD (p : Nat × List Nat) : D := .tuple [nat p.1, .tuple (nats p.2)]
def gkK (p : Nat × List Nat) : NestedKey := .tup [.num p.1, .tup (p.2.map fun i : Nat => .num (i : Int))]
theorem gk_key : Keyed gkD gkK := by
  refine ⟨fun x => ?_, fun x y h => ?_, fun _ _ => rfl⟩
  · unfold gkD keyTop
    have e : DL.keyOf (.tuple [nat x.1, .tuple (nats x.2)]) = some (gkK x) := by
      simp [DL.keyOf, DL.keysOf, keys_nats, gkK]
    have d : NestedKey.depth (gkK x) ≤ 8 := by
      simp [gkK, NestedKey.depth, NestedKey.depthAll, nums_dep]
    simp only [e, if_pos d]
  · unfold gkK at h
    injection h with h
    injection h with a h
    injection h with b h
    injection a with a
    injection b with b
    have := nums_inj' _ _ b
    obtain ⟨x1, x2⟩ := x
    obtain ⟨y1, y2⟩ := y
    dsimp only at a this
    rw [this, show x1 = y1 by omega]
/-- (a, b) -/
def ppD (p : Nat × Nat) : D := .tuple [nat p.1, nat p.2]
def ppK (p : Nat × Nat) : NestedKey := .tup [.num p.1, .num p.2]
theorem pp_key : Keyed ppD ppK := by
  refine ⟨fun x => ?_, fun x y h => ?_, fun _ _ => rfl⟩
  · unfold ppD keyTop
    have e : DL.keyOf (.tuple [nat x.1, nat x.2]) = some (ppK x) := by
      simp [DL.keyOf, DL.keysOf, ppK]
    have d : NestedKey.depth (ppK x) ≤ 8 := by
      simp [ppK, NestedKey.depth, NestedKey.depthAll]
    simp only [e, if_pos d]
  · unfold ppK at h
    injection h with h
    injection h with a h
    injection h with b h
    injection a with a
    injection b with b
    obtain ⟨x1, x2⟩ := x
    obtain ⟨y1, y2⟩ := y
    dsimp only at a b
    rw [show x1 = y1 by omega, show x2 = y2 by omega]
theorem ppE : Enc ppD 1 := ⟨fun _ => rfl, fun x => Nat.le_of_eq rfl, fun x y => by
  show (PyData.eqv (nat x.1) (nat y.1) && (PyData.eqv (nat x.2) (nat y.2) && true)) = _
  rw [Enc.natE.eqs, Enc.natE.eqs, Bool.eq_iff_iff]
  obtain ⟨x1, x2⟩ := x
  obtain ⟨y1, y2⟩ := y
  simp⟩
end DL
/-! ## laws k89, k90, plain: breadth first, smallest monitors -/
namespace K89
open DL K88
theorem get_D {α : Type} {l : List α} {k : Nat} {z : α} (h : k < l.length) : l[k]? = some (l.getD k z) := by
  rw [List.getElem?_eq_getElem h, List.getD_eq_getElem?_getD, List.getElem?_eq_getElem h]; rfl
theorem getD_of {α : Type} {l : List α} {k : Nat} {z a : α} (h : l[k]? = some a) : l.getD k z = a := by rw [List.getD_eq_getElem?_getD, h]; rfl
theorem getD_mem {α : Type} {l : List α} {k : Nat} {z : α} (h : k < l.length) : l.getD k z ∈ l := List.mem_of_getElem? (get_D h)
section
variable {κ : Type} [DecidableEq κ]
theorem mem_seenGo : ∀ (xs L : List κ) (y : κ), y ∈ seenGo L xs ↔ y ∈ L ∨ y ∈ xs
  | [], L, y => by simp [seenGo]
  | x :: xs, L, y => by
    show y ∈ seenGo (add1 L x) xs ↔ _
    rw [mem_seenGo xs, mem_add1, List.mem_cons, or_assoc]
theorem nodup_add1 {L : List κ} {x : κ} (h : L.Nodup) : (add1 L x).Nodup := by
  unfold add1
  split
  · exact h
  · rename_i n
    rw [List.nodup_append]
    exact ⟨h, by simp, fun a ha b hb e => n (by rw [← List.mem_singleton.mp hb, ← e]; exact ha)⟩
theorem nodup_seenGo : ∀ (xs L : List κ), L.Nodup → (seenGo L xs).Nodup
  | [], _, h => h
  | x :: xs, L, h => nodup_seenGo xs (add1 L x) (nodup_add1 h)
theorem nodup_len : ∀ (L U : List κ), L.Nodup → (∀ x ∈ L, x ∈ U) → L.length ≤ U.length
  | [], _, _, _ => Nat.zero_le _
  | x :: L, U, h, hs => by
    have hx := hs x List.mem_cons_self
    have hc := List.nodup_cons.mp h
    have := nodup_len L (U.erase x) hc.2 fun y hy => (List.mem_erase_of_ne (fun e : y = x => hc.1 (by rw [← e]; exact hy))).mpr (hs y (List.mem_cons_of_mem _ hy))
    rw [List.length_erase_of_mem hx] at this
    have p : 0 < U.length := List.length_pos_of_mem hx
    rw [List.length_cons]
    omega
def bfs (succ : κ → List κ) : Nat → Nat → List κ → List κ
  | 0, _, L => L
  | f + 1, k, L => match L[k]? with
    | none => L
    | some x => bfs succ f (k + 1) (seenGo L (succ x))
variable {succ : κ → List κ}
theorem bfs_stop {L : List κ} {k : Nat} (h : L.length ≤ k) : ∀ f, bfs succ f k L = L
  | 0 => rfl
  | f + 1 => by unfold bfs; rw [List.getElem?_eq_none h]
theorem bfs_step {L : List κ} {k : Nat} {x : κ} (h : L[k]? = some x) (f : Nat) : bfs succ (f + 1) k L = bfs succ f (k + 1) (seenGo L (succ x)) := by
  show (match L[k]? with | none => L | some x => bfs succ f (k + 1) (seenGo L (succ x))) = _
  rw [h]
theorem bfs_pre : ∀ (f k : Nat) (L : List κ), ∃ t, bfs succ f k L = L ++ t
  | 0, _, L => ⟨[], (List.append_nil _).symm⟩
  | f + 1, k, L => by
    cases h : L[k]? with
    | none => exact ⟨[], by rw [bfs_stop (List.getElem?_eq_none_iff.mp h), List.append_nil]⟩
    | some x =>
      rw [bfs_step h]
      obtain ⟨t, e⟩ := bfs_pre f (k + 1) (seenGo L (succ x))
      obtain ⟨t', e'⟩ := seen_pre (succ x) L
      exact ⟨t' ++ t, by rw [e, e', List.append_assoc]⟩
theorem bfs_nodup : ∀ (f k : Nat) (L : List κ), L.Nodup → (bfs succ f k L).Nodup
  | 0, _, _, h => h
  | f + 1, k, L, h => by
    cases q : L[k]? with
    | none => rw [bfs_stop (List.getElem?_eq_none_iff.mp q)]; exact h
    | some x => rw [bfs_step q]; exact bfs_nodup f (k + 1) _ (nodup_seenGo _ _ h)
theorem bfs_in {U : List κ} (hc : ∀ x ∈ U, ∀ y ∈ succ x, y ∈ U) : ∀ (f k : Nat) (L : List κ), (∀ x ∈ L, x ∈ U) → ∀ x ∈ bfs succ f k L, x ∈ U
  | 0, _, _, h => h
  | f + 1, k, L, h => by
    cases q : L[k]? with
    | none => rw [bfs_stop (List.getElem?_eq_none_iff.mp q)]; exact h
    | some x =>
      rw [bfs_step q]
      refine bfs_in hc f (k + 1) _ fun y hy => ?_
      rcases (mem_seenGo _ _ _).mp hy with hy | hy
      · exact h y hy
      · exact hc x (h x (List.mem_of_getElem? q)) y hy
theorem bfs_closed : ∀ (f k : Nat) (L : List κ), (∀ i < k, ∀ x, L[i]? = some x → ∀ y ∈ succ x, y ∈ L) → (bfs succ f k L).length ≤ k + f → ∀ x ∈ bfs succ f k L, ∀ y ∈ succ x, y ∈ bfs succ f k L
  | 0, k, L, h, hl, x, hx, y, hy => by
    obtain ⟨i, hi⟩ := List.getElem?_of_mem hx
    have := (List.getElem?_eq_some_iff.mp hi).1
    exact h i (by have : (bfs succ 0 k L).length ≤ k + 0 := hl; omega) x hi y hy
  | f + 1, k, L, h, hl, x, hx, y, hy => by
    cases q : L[k]? with
    | none =>
      have lk := List.getElem?_eq_none_iff.mp q
      rw [bfs_stop lk] at hx ⊢
      obtain ⟨i, hi⟩ := List.getElem?_of_mem hx
      have := (List.getElem?_eq_some_iff.mp hi).1
      exact h i (by omega) x hi y hy
    | some z =>
      rw [bfs_step q] at hl hx ⊢
      refine bfs_closed f (k + 1) _ (fun i hi w hw v hv => ?_) (by omega) x hx y hy
      have lk := (List.getElem?_eq_some_iff.mp q).1
      obtain ⟨t, e⟩ := seen_pre (succ z) L
      rcases Nat.lt_or_ge i k with l | l
      · rw [e, List.getElem?_append_left (by omega)] at hw
        exact (mem_seenGo _ _ _).mpr (.inl (h i l w hw v hv))
      · have : i = k := by omega
        subst this
        rw [e, List.getElem?_append_left lk, q] at hw
        cases hw
        exact (mem_seenGo _ _ _).mpr (.inr hv)
theorem idx_get {L : List κ} (h : L.Nodup) {i : Nat} {x : κ} (hi : L[i]? = some x) : L.idxOf x = i := by
  obtain ⟨li, e⟩ := List.getElem?_eq_some_iff.mp hi
  subst e
  have hx := List.getElem_mem li
  have a := List.idxOf_lt_length_of_mem hx
  have b := List.getElem_idxOf a
  exact (List.getElem_inj h).mp b
theorem get_idx {L : List κ} {x : κ} (h : x ∈ L) : L[L.idxOf x]? = some x := by
  have a := List.idxOf_lt_length_of_mem h
  rw [List.getElem?_eq_getElem a, List.getElem_idxOf a]
end
/-! ### classes of a machine with one step for each reading -/
section
variable {ν : Type} [DecidableEq ν]
def dkey (E : List (List Nat)) (G : List Nat) (a : Nat) : Nat × List Nat := (G.getD a 0, (E.getD a []).map fun c => G.getD c 0)
def dfine (E : List (List Nat)) (G : List Nat) : List Nat := num ((List.range E.length).map (dkey E G))
def dgr (V : List ν) (E : List (List Nat)) : Nat → List Nat
  | 0 => num V
  | i + 1 => dfine E (dgr V E i)
theorem dfine_len {E : List (List Nat)} {G : List Nat} : (dfine E G).length = E.length := by rw [dfine, num_len]; simp
theorem dgr_len {V : List ν} {E : List (List Nat)} (h : V.length = E.length) (i : Nat) : (dgr V E i).length = E.length := by
  cases i with
  | zero => exact (num_len V).trans h
  | succ i => exact dfine_len
theorem dgr_rg {V : List ν} {E : List (List Nat)} (i : Nat) : RG 0 (dgr V E i) := by
  cases i with
  | zero => exact num_rg V []
  | succ i => exact num_rg _ []
theorem dfine_eq {E : List (List Nat)} {G : List Nat} {a b : Nat} (ha : a < E.length) (hb : b < E.length) : (dfine E G).getD a 0 = (dfine E G).getD b 0 ↔ G.getD a 0 = G.getD b 0 ∧ ((E.getD a []).map fun c => G.getD c 0) = (E.getD b []).map fun c => G.getD c 0 := by
  have e : ∀ k < E.length, ((List.range E.length).map (dkey E G))[k]? = some (dkey E G k) := fun k hk => by
    rw [List.getElem?_map, List.getElem?_range hk]; rfl
  rw [dfine, num_eq (e a ha) (e b hb)]
  unfold dkey
  rw [Prod.mk.injEq]
theorem dgr_finer {V : List ν} {E : List (List Nat)} (h : V.length = E.length) (i : Nat) : cnt 0 (dgr V E i) ≤ cnt 0 (dgr V E (i + 1)) ∧ (cnt 0 (dgr V E (i + 1)) = cnt 0 (dgr V E i) → dgr V E (i + 1) = dgr V E i) :=
  finer (by rw [dgr_len h, dgr_len h]) (dgr_rg _) (dgr_rg _) fun a ha b hb e => by
    rw [dgr_len h] at ha hb
    exact ((dfine_eq ha hb).mp e).1
theorem dstop {V : List ν} {E : List (List Nat)} (h : V.length = E.length) : ∃ k ≤ E.length, dgr V E (k + 1) = dgr V E k ∧ ∀ i < k, dgr V E (i + 1) ≠ dgr V E i := by
  have : ∃ n ≤ E.length, dgr V E (n + 1) = dgr V E n := by
    false_or_by_contra
    rename_i no
    have up : ∀ n, n ≤ E.length + 1 → n ≤ cnt 0 (dgr V E n) := by
      intro n
      induction n with
      | zero => exact fun _ => Nat.zero_le _
      | succ n ih =>
        intro hn
        have a := ih (by omega)
        obtain ⟨b, c⟩ := dgr_finer h n
        have d : cnt 0 (dgr V E (n + 1)) ≠ cnt 0 (dgr V E n) := fun e => no ⟨n, by omega, c e⟩
        omega
    have a := up (E.length + 1) (Nat.le_refl _)
    have b := (cnt_le (dgr V E (E.length + 1)) 0).2
    rw [dgr_len h] at b
    omega
  obtain ⟨n, hn, e⟩ := this
  obtain ⟨k, hk, e', m⟩ := least (fun n => dgr V E (n + 1) = dgr V E n) n e
  exact ⟨k, by omega, e', m⟩
theorem dstop_cnt {V : List ν} {E : List (List Nat)} (h : V.length = E.length) (i : Nat) : cnt 0 (dgr V E (i + 1)) = cnt 0 (dgr V E i) ↔ dgr V E (i + 1) = dgr V E i := ⟨(dgr_finer h i).2, fun e => by rw [e]⟩
/-- a relation that labels and steps keep -/
structure Stab (V : List ν) (E : List (List Nat)) (R : Nat → Nat → Prop) : Prop where
  lab : ∀ a < V.length, ∀ b < V.length, R a b → V[a]? = V[b]?
  len : ∀ a < V.length, ∀ b < V.length, R a b → (E.getD a []).length = (E.getD b []).length
  nxt : ∀ a < V.length, ∀ b < V.length, R a b → ∀ j < (E.getD a []).length, R ((E.getD a []).getD j 0) ((E.getD b []).getD j 0)
theorem coarsest {V : List ν} {E : List (List Nat)} (h : V.length = E.length) (hi : ∀ a < E.length, ∀ c ∈ E.getD a [], c < E.length) {R : Nat → Nat → Prop} (S : Stab V E R) : ∀ (i : Nat), ∀ a < V.length, ∀ b < V.length, R a b → (dgr V E i).getD a 0 = (dgr V E i).getD b 0
  | 0, a, ha, b, hb, r => by
    have e := S.lab a ha b hb r
    have x : V[a]? = some V[a] := List.getElem?_eq_getElem ha
    have y : V[b]? = some V[b] := List.getElem?_eq_getElem hb
    rw [x, y] at e
    exact (num_eq x y).mpr (Option.some.inj e)
  | i + 1, a, ha, b, hb, r => by
    refine (dfine_eq (by omega) (by omega)).mpr ⟨coarsest h hi S i a ha b hb r, ?_⟩
    have hl := S.len a ha b hb r
    apply List.ext_getElem
    · rw [List.length_map, List.length_map, hl]
    · intro j h1 h2
      rw [List.length_map] at h1 h2
      rw [List.getElem_map, List.getElem_map]
      have n := S.nxt a ha b hb r j h1
      have ea : (E.getD a []).getD j 0 = (E.getD a [])[j] := by rw [List.getD_eq_getElem?_getD, List.getElem?_eq_getElem h1]; rfl
      have eb : (E.getD b []).getD j 0 = (E.getD b [])[j] := by rw [List.getD_eq_getElem?_getD, List.getElem?_eq_getElem h2]; rfl
      rw [ea, eb] at n
      exact coarsest h hi S i _ (by rw [h]; exact hi a (by omega) _ (List.getElem_mem _)) _ (by rw [h]; exact hi b (by omega) _ (List.getElem_mem _)) n
theorem dgr_stab {V : List ν} {E : List (List Nat)} (h : V.length = E.length) {k : Nat} (hk : dgr V E (k + 1) = dgr V E k) : Stab V E fun a b => (dgr V E k).getD a 0 = (dgr V E k).getD b 0 := by
  have labs : ∀ i, ∀ a < V.length, ∀ b < V.length, (dgr V E i).getD a 0 = (dgr V E i).getD b 0 → V[a]? = V[b]? := by
    intro i
    induction i with
    | zero =>
      intro a ha b hb e
      have x : V[a]? = some V[a] := List.getElem?_eq_getElem ha
      have y : V[b]? = some V[b] := List.getElem?_eq_getElem hb
      rw [x, y, (num_eq x y).mp e]
    | succ i ih => exact fun a ha b hb e => ih a ha b hb ((dfine_eq (by omega) (by omega)).mp e).1
  have st : ∀ a < V.length, ∀ b < V.length, (dgr V E k).getD a 0 = (dgr V E k).getD b 0 → ((E.getD a []).map fun c => (dgr V E k).getD c 0) = (E.getD b []).map fun c => (dgr V E k).getD c 0 := fun a ha b hb e => by
    have e' : (dfine E (dgr V E k)).getD a 0 = (dfine E (dgr V E k)).getD b 0 := by rw [show dfine E (dgr V E k) = dgr V E k from hk]; exact e
    exact ((dfine_eq (by omega) (by omega)).mp e').2
  refine ⟨labs k, fun a ha b hb e => ?_, fun a ha b hb e j hj => ?_⟩
  · have := congrArg List.length (st a ha b hb e)
    simpa using this
  · have q := st a ha b hb e
    have hl := congrArg List.length q
    rw [List.length_map, List.length_map] at hl
    have := congrArg (fun l => l[j]?) q
    simp only [List.getElem?_map, List.getElem?_eq_getElem hj, List.getElem?_eq_getElem (show j < (E.getD b []).length by omega), Option.map_some] at this
    have ea : (E.getD a []).getD j 0 = (E.getD a [])[j] := by rw [List.getD_eq_getElem?_getD, List.getElem?_eq_getElem hj]; rfl
    have eb : (E.getD b []).getD j 0 = (E.getD b [])[j]'(by omega) := by rw [List.getD_eq_getElem?_getD, List.getElem?_eq_getElem (by omega)]; rfl
    rw [ea, eb]
    exact Option.some.inj this
end
/-! ### the reached part, and the pairs told apart -/
section
variable {ν : Type} [DecidableEq ν]
/-- T tells apart just the pairs that have to be -/
structure Told (V : List ν) (E : List (List Nat)) (T : Nat → Nat → Bool) : Prop where
  st : Stab V E fun a b => T a b = false
  sound : ∀ R, Stab V E R → ∀ a < V.length, ∀ b < V.length, R a b → T a b = false
def sub (V : List ν) (z : ν) (P : List Nat) : List ν := P.map fun p => V.getD p z
def subE (E : List (List Nat)) (P : List Nat) : List (List Nat) := P.map fun p => (E.getD p []).map fun c => P.idxOf c
/-- P: places, without repeats, with all their steps -/
structure Part (n : Nat) (E : List (List Nat)) (P : List Nat) : Prop where
  nd : P.Nodup
  lt : ∀ p ∈ P, p < n
  cl : ∀ p ∈ P, ∀ c ∈ E.getD p [], c ∈ P
variable {V : List ν} {E : List (List Nat)} {z : ν} {P : List Nat} {T : Nat → Nat → Bool}
theorem subE_get {a : Nat} (ha : a < P.length) : (subE E P).getD a [] = (E.getD (P.getD a 0) []).map fun c => P.idxOf c := by
  unfold subE
  rw [List.getD_eq_getElem?_getD, List.getElem?_map, get_D (z := 0) ha]; rfl
theorem sub_get {a : Nat} (ha : a < P.length) (hp : P.getD a 0 < V.length) : (sub V z P)[a]? = V[P.getD a 0]? := by
  unfold sub
  rw [List.getElem?_map, get_D (z := 0) ha, Option.map_some, get_D (z := z) hp]
theorem subE_in (hP : Part V.length E P) : ∀ a < (subE E P).length, ∀ c ∈ (subE E P).getD a [], c < (subE E P).length := fun a ha c hc => by
  have l : (subE E P).length = P.length := List.length_map _
  rw [l] at ha ⊢
  rw [subE_get ha] at hc
  obtain ⟨d, hd, rfl⟩ := List.mem_map.mp hc
  exact List.idxOf_lt_length_of_mem (hP.cl _ (getD_mem ha) d hd)
theorem same_class (hP : Part V.length E P) (hT : Told V E T) {k : Nat} (hk : dgr (sub V z P) (subE E P) (k + 1) = dgr (sub V z P) (subE E P) k) {a b : Nat} (ha : a < P.length) (hb : b < P.length) :
    (dgr (sub V z P) (subE E P) k).getD a 0 = (dgr (sub V z P) (subE E P) k).getD b 0 ↔ T (P.getD a 0) (P.getD b 0) = false := by
  have lv : (sub V z P).length = P.length := List.length_map _
  have le : (subE E P).length = P.length := List.length_map _
  have hl : (sub V z P).length = (subE E P).length := by rw [lv, le]
  have pl : ∀ x < P.length, P.getD x 0 < V.length := fun x hx => hP.lt _ (getD_mem hx)
  constructor
  · intro e
    refine hT.sound (fun x y => ∃ a b, a < P.length ∧ b < P.length ∧ P.getD a 0 = x ∧ P.getD b 0 = y ∧ (dgr (sub V z P) (subE E P) k).getD a 0 = (dgr (sub V z P) (subE E P) k).getD b 0) ?_ _ (pl a ha) _ (pl b hb) ⟨a, b, ha, hb, rfl, rfl, e⟩
    have S := dgr_stab hl hk
    refine ⟨?_, ?_, ?_⟩
    · rintro x hx y hy ⟨a, b, ha, hb, rfl, rfl, e⟩
      have := S.lab a (by omega) b (by omega) e
      rw [sub_get ha hx, sub_get hb hy] at this
      exact this
    · rintro x hx y hy ⟨a, b, ha, hb, rfl, rfl, e⟩
      have := S.len a (by omega) b (by omega) e
      rw [subE_get ha, subE_get hb] at this
      simpa using this
    · rintro x hx y hy ⟨a, b, ha, hb, rfl, rfl, e⟩ j hj
      have l2 := S.len a (by omega) b (by omega) e
      rw [subE_get ha, subE_get hb, List.length_map, List.length_map] at l2
      have n := S.nxt a (by omega) b (by omega) e j (by rw [subE_get ha, List.length_map]; exact hj)
      rw [subE_get ha, subE_get hb] at n
      have ma := hP.cl _ (getD_mem ha) _ (getD_mem (z := 0) hj)
      have mb := hP.cl _ (getD_mem hb) _ (getD_mem (z := 0) (show j < (E.getD (P.getD b 0) []).length by omega))
      have ea : ((E.getD (P.getD a 0) []).map fun c => P.idxOf c).getD j 0 = P.idxOf ((E.getD (P.getD a 0) []).getD j 0) := by
        rw [List.getD_eq_getElem?_getD, List.getElem?_map, get_D (z := 0) hj]; rfl
      have eb : ((E.getD (P.getD b 0) []).map fun c => P.idxOf c).getD j 0 = P.idxOf ((E.getD (P.getD b 0) []).getD j 0) := by
        rw [List.getD_eq_getElem?_getD, List.getElem?_map, get_D (z := 0) (show j < (E.getD (P.getD b 0) []).length by omega)]; rfl
      rw [ea, eb] at n
      exact ⟨_, _, List.idxOf_lt_length_of_mem ma, List.idxOf_lt_length_of_mem mb, getD_of (get_idx ma), getD_of (get_idx mb), n⟩
  · intro e
    refine coarsest hl (fun a ha c hc => subE_in hP a ha c hc) (R := fun a b => T (P.getD a 0) (P.getD b 0) = false) ?_ k a (by omega) b (by omega) e
    refine ⟨fun a ha b hb e => ?_, fun a ha b hb e => ?_, fun a ha b hb e j hj => ?_⟩
    · rw [lv] at ha hb
      rw [sub_get ha (pl a ha), sub_get hb (pl b hb)]
      exact hT.st.lab _ (pl a ha) _ (pl b hb) e
    · rw [lv] at ha hb
      rw [subE_get ha, subE_get hb, List.length_map, List.length_map]
      exact hT.st.len _ (pl a ha) _ (pl b hb) e
    · rw [lv] at ha hb
      rw [subE_get ha, List.length_map] at hj
      have l2 := hT.st.len _ (pl a ha) _ (pl b hb) e
      have n := hT.st.nxt _ (pl a ha) _ (pl b hb) e j hj
      have ma := hP.cl _ (getD_mem ha) _ (getD_mem (z := 0) hj)
      have mb := hP.cl _ (getD_mem hb) _ (getD_mem (z := 0) (show j < (E.getD (P.getD b 0) []).length by omega))
      rw [subE_get ha, subE_get hb]
      have ea : ((E.getD (P.getD a 0) []).map fun c => P.idxOf c).getD j 0 = P.idxOf ((E.getD (P.getD a 0) []).getD j 0) := by
        rw [List.getD_eq_getElem?_getD, List.getElem?_map, get_D (z := 0) hj]; rfl
      have eb : ((E.getD (P.getD b 0) []).map fun c => P.idxOf c).getD j 0 = P.idxOf ((E.getD (P.getD b 0) []).getD j 0) := by
        rw [List.getD_eq_getElem?_getD, List.getElem?_map, get_D (z := 0) (show j < (E.getD (P.getD b 0) []).length by omega)]; rfl
      show T (P.getD _ 0) (P.getD _ 0) = false
      rw [ea, eb, getD_of (get_idx ma), getD_of (get_idx mb)]
      exact n
/-- the law's choice of one of each class -/
def kstep (T : Nat → Nat → Bool) (ks : List Nat) (p : Nat) : List Nat := if (ks.filter fun o => !T p o).length = 0 then ks ++ [p] else ks
theorem kept_ok (hP : Part V.length E P) (hT : Told V E T) {k : Nat} (hk : dgr (sub V z P) (subE E P) (k + 1) = dgr (sub V z P) (subE E P) k) :
    ∀ i, i ≤ P.length → (P.take i).foldl (kstep T) [] = (firsts (dgr (sub V z P) (subE E P) k) i).map fun a => P.getD a 0 := by
  have lv : (sub V z P).length = P.length := List.length_map _
  have le : (subE E P).length = P.length := List.length_map _
  have lg : (dgr (sub V z P) (subE E P) k).length = P.length := (dgr_len (by rw [lv, le]) k).trans le
  have rg := dgr_rg (V := sub V z P) (E := subE E P) k
  have cls := fun {a b : Nat} (ha : a < P.length) (hb : b < P.length) => same_class (z := z) hP hT hk ha hb
  generalize dgr (sub V z P) (subE E P) k = G at *
  intro i
  induction i with
  | zero => intro _; rfl
  | succ i ih =>
    intro hi
    rw [take_snoc (by omega), List.foldl_append, ih (by omega), firsts_succ]
    have fle := firsts_le rg (n := i) (by omega)
    show kstep T _ (P.getD i 0) = _
    have iff : (((firsts G i).map fun a => P.getD a 0).filter fun o => !T (P.getD i 0) o).length = 0 ↔ G.getD i 0 = (firsts G i).length := by
      rw [List.length_eq_zero_iff, List.filter_eq_nil_iff]
      constructor
      · intro h
        false_or_by_contra
        rename_i ne
        have lt : G.getD i 0 < (firsts G i).length := by omega
        have q := List.getElem?_eq_getElem lt
        obtain ⟨e, l⟩ := firsts_get _ _ _ q
        have := h _ (List.mem_map.mpr ⟨_, List.getElem_mem lt, rfl⟩)
        rw [(cls (show i < P.length by omega) (show (firsts G i)[G.getD i 0] < P.length by omega)).mp e.symm] at this
        exact this rfl
      · intro h o ho
        obtain ⟨a, ha, rfl⟩ := List.mem_map.mp ho
        obtain ⟨j, hj⟩ := List.getElem?_of_mem ha
        obtain ⟨e, l⟩ := firsts_get _ _ _ hj
        have lj := (List.getElem?_eq_some_iff.mp hj).1
        intro c
        have c' : T (P.getD i 0) (P.getD a 0) = false := by simpa using c
        have := (cls (show i < P.length by omega) (show a < P.length by omega)).mpr c'
        omega
    unfold kstep fstStep
    by_cases q : G.getD i 0 = (firsts G i).length
    · rw [if_pos (iff.mpr q), if_pos q, List.map_append]; rfl
    · rw [if_neg (fun h => q (iff.mp h)), if_neg q]
/-- the number of a step's class among them -/
theorem place_ok (hP : Part V.length E P) (hT : Told V E T) {k : Nat} (hk : dgr (sub V z P) (subE E P) (k + 1) = dgr (sub V z P) (subE E P) k) {c : Nat} (hc : c ∈ P) :
    (List.range (firsts (dgr (sub V z P) (subE E P) k) P.length).length).filter (fun j => !T (((firsts (dgr (sub V z P) (subE E P) k) P.length).map fun a => P.getD a 0).getD j 0) c) = [(dgr (sub V z P) (subE E P) k).getD (P.idxOf c) 0] := by
  have lv : (sub V z P).length = P.length := List.length_map _
  have le : (subE E P).length = P.length := List.length_map _
  have lg : (dgr (sub V z P) (subE E P) k).length = P.length := (dgr_len (by rw [lv, le]) k).trans le
  have rg := dgr_rg (V := sub V z P) (E := subE E P) k
  have cls := fun {a b : Nat} (ha : a < P.length) (hb : b < P.length) => same_class (z := z) hP hT hk ha hb
  generalize dgr (sub V z P) (subE E P) k = G at *
  have hi := List.idxOf_lt_length_of_mem hc
  have gc : P.getD (P.idxOf c) 0 = c := getD_of (get_idx hc)
  have lt : G.getD (P.idxOf c) 0 < (firsts G P.length).length := by
    rw [firsts_len rg P.length (by omega), List.take_of_length_le (by omega)]
    exact rg_lt _ 0 rg _ (getD_mem (by omega))
  have e : (List.range (firsts G P.length).length).filter (fun j => !T (((firsts G P.length).map fun a => P.getD a 0).getD j 0) c) = (List.range (firsts G P.length).length).filter (fun j => !apart G ((firsts G P.length).getD j 0) (P.idxOf c)) := by
    refine List.filter_congr fun j hj => ?_
    have lj := List.mem_range.mp hj
    have q := get_D (l := firsts G P.length) (z := 0) lj
    have l := (firsts_get _ _ _ q).2
    have e1 : ((firsts G P.length).map fun a => P.getD a 0).getD j 0 = P.getD ((firsts G P.length).getD j 0) 0 := by
      rw [List.getD_eq_getElem?_getD, List.getElem?_map, q]; rfl
    rw [e1]
    have := cls l hi
    rw [gc] at this
    unfold apart
    by_cases t : T (P.getD ((firsts G P.length).getD j 0) 0) c = false
    · rw [t, decide_eq_true (this.mpr t)]; rfl
    · rw [decide_eq_false fun e => t (this.mp e)]
      cases h : T (P.getD ((firsts G P.length).getD j 0) 0) c
      · exact absurd h t
      · rfl
  rw [e, like_filter (fun j b hb => (firsts_get _ _ _ hb).1), if_pos lt]
end
end K89
namespace K89
open DL L2
open K88 (add1 seenGo num numGo RG cnt firsts fstStep idx_old idx_new mem_add1)
@[reducible] def T (s : String) : D := .str (PySem.Str.ofString s)
inductive Vd where | sure | never | unknown | impossible
deriving DecidableEq
def vt : Vd → D
  | .sure => T "sure"
  | .never => T "never"
  | .unknown => T "unknown"
  | .impossible => T "impossible"
def vk : Vd → PySem.NestedKey
  | .sure => .text (PySem.Str.ofString "sure")
  | .never => .text (PySem.Str.ofString "never")
  | .unknown => .text (PySem.Str.ofString "unknown")
  | .impossible => .text (PySem.Str.ofString "impossible")
theorem vtE : Enc vt 0 := ⟨fun x => by cases x <;> decide +kernel, fun x => by cases x <;> decide +kernel, fun x y => by cases x <;> cases y <;> decide +kernel⟩
theorem vk_inj : ∀ x y : Vd, vk x = vk y → x = y := fun x y h => by
  cases x <;> cases y <;> first | rfl | exact absurd h (by decide +kernel)
theorem vt_key : Keyed vt vk := ⟨fun x => by cases x <;> rfl, vk_inj, fun x y => by cases x <;> cases y <;> rfl⟩
/-! ### grouped -/
section
variable {κ : Type} [DecidableEq κ] {em : κ → D} {kk : κ → PySem.NestedKey}
def gStep (s : List κ × List Nat) (x : κ) : List κ × List Nat := (add1 s.1 x, s.2 ++ [(add1 s.1 x).idxOf x])
theorem gFold : ∀ (xs seen : List κ) (gs : List Nat), xs.foldl gStep (seen, gs) = (seenGo seen xs, gs ++ numGo seen xs)
  | [], seen, gs => by simp [seenGo, numGo]
  | x :: xs, seen, gs => by
    rw [List.foldl_cons]
    show xs.foldl gStep (add1 seen x, gs ++ [(add1 seen x).idxOf x]) = _
    rw [gFold xs]
    show _ = (seenGo (add1 seen x) xs, gs ++ ((add1 seen x).idxOf x :: numGo (add1 seen x) xs))
    rw [List.append_assoc]
    rfl
theorem add1_len (seen : List κ) (x : κ) : (add1 seen x).length ≤ seen.length + 1 := by
  unfold add1
  split
  · omega
  · simp
theorem add1_old {seen : List κ} {x : κ} (h : x ∈ seen) : add1 seen x = seen := if_pos h
theorem add1_new {seen : List κ} {x : κ} (h : x ∉ seen) : add1 seen x = seen ++ [x] := if_neg h
theorem grouped_ok (h : Keyed em kk) (xs : List κ) (hl : xs.length < 16777216) : m_grouped [.list (xs.map em)] = .ok (.own (nats (num xs))) := by
  have loop := forD_foldI (em := em) (g := turnD (.nm 3) l0_grouped) (J := Cell) (σ := List κ × List Nat) (step := gStep)
    (E := fun s j => [.d (.list (xs.map em)), .dic (seenD em nat 0 s.1), .own (nats s.2), j]) (fun i s => s.1.length ≤ i ∧ s.2.length = i) xs 0 (by
      rintro i ⟨seen, gs⟩ x j hx ⟨h1, h2⟩
      have hi := (List.getElem?_eq_some_iff.mp hx).1
      dsimp only at h1 h2
      refine ⟨.d (em x), ?_, Nat.le_trans (add1_len _ _) (by show seen.length + 1 ≤ _; omega), by show (gs ++ [_]).length = _; simp; omega⟩
      have l1 : gs.length < 16777216 := by omega
      have a1 := seen_notIn (val := nat) h x seen
      by_cases m : x ∈ seen
      · have a2 := seen_ix (val := nat) h m
        rw [decide_eq_true m] at a1
        unfold gStep
        rw [add1_old m]
        simp -implicitDefEqProofs [l0_grouped, a1, a2, l1]
      · have a2 := seen_ix (val := nat) h (x := x) (seen := seen ++ [x]) (by simp)
        have ei : (seen ++ [x]).idxOf x = seen.length := by rw [← add1_new m]; exact idx_new m
        have a4 := seen_put (val := nat) h m (by omega)
        have a3 := seen_len (em := em) (val := nat) seen
        rw [decide_eq_false m] at a1
        unfold gStep
        rw [add1_new m, ei]
        rw [ei] at a2
        simp -implicitDefEqProofs [l0_grouped, a1, a2, a3, a4, dicAt, l1]) ([], []) .un ⟨Nat.le_refl 0, rfl⟩
  obtain ⟨j', h1, _⟩ := loop
  rw [gFold] at h1
  dsimp only at h1
  have l0 : lstR (.ok []) = .ok (.own []) := lstR_ok (by decide)
  unfold m_grouped runD g_grouped
  simp only [List.map_nil, seenD, List.zipIdx_nil] at h1
  simp -implicitDefEqProofs [startD, setR, l0, h1, num]
end
/-! ### monitors -/
def stepD (r : List Nat) : D := .tuple (nats r)
@[irreducible] def mon (rd : List D) (f : Nat) (V : List Vd) (E : List (List Nat)) : D := .tuple [.tuple rd, nat f, .tuple (V.map vt), .tuple (E.map stepD)]
section
variable {rd : List D} {f : Nat} {V : List Vd} {E : List (List Nat)}
theorem mon0 : idxD (.d (mon rd f V E)) (.d (.int 0)) = .ok (.d (.tuple rd)) := by unfold mon; exact idx_tuple (k := 0) rfl
theorem mon1 : idxD (.d (mon rd f V E)) (.d (.int 1)) = .ok (.d (.int (f : Int))) := by unfold mon; exact idx_tuple (k := 1) rfl
theorem mon2 : idxD (.d (mon rd f V E)) (.d (.int 2)) = .ok (.d (.tuple (V.map vt))) := by unfold mon; exact idx_tuple (k := 2) rfl
theorem mon3 : idxD (.d (mon rd f V E)) (.d (.int 3)) = .ok (.d (.tuple (E.map stepD))) := by unfold mon; exact idx_tuple (k := 3) rfl
theorem step_at {a : Nat} (h : a < E.length) : idxD (.d (.tuple (E.map stepD))) (.d (.int (a : Int))) = .ok (.d (stepD (E.getD a []))) := ixT (getS h)
theorem verd_at {a : Nat} (h : a < V.length) : idxD (.d (.tuple (V.map vt))) (.d (.int (a : Int))) = .ok (.d (vt (V.getD a .sure))) := ixT (getS h)
theorem step_items {r : List Nat} : itemsA (.d (stepD r)) = .ok (nats r) := rfl
/-- what is asked of a monitor -/
structure Ok (f : Nat) (V : List Vd) (E : List (List Nat)) : Prop where
  len : V.length = E.length
  fst : f < E.length
  small : E.length ≤ 1000
  row : ∀ a < E.length, (E.getD a []).length ≤ 1000 ∧ ∀ c ∈ E.getD a [], c < E.length
theorem nat_lt {i n : Nat} : intB (fun i j => decide (i < j)) (.d (.int (i : Int))) (.d (.int (n : Int))) = .ok (.d (.bool (decide (i < n)))) := by
  rw [intB_int]
  congr 3
  exact decide_eq_decide.mpr (by omega)
theorem nodup_small (hm : Ok f V E) : ∀ (fu k : Nat) (L : List Nat), L.Nodup → (∀ x ∈ L, x < E.length) → (bfs (fun p => E.getD p []) fu k L).length ≤ E.length := fun fu k L hn hL => by
  have := nodup_len _ (List.range E.length) (bfs_nodup (succ := fun p => E.getD p []) fu k L hn) (bfs_in (U := List.range E.length) (fun x hx y hy => List.mem_range.mpr ((hm.row x (List.mem_range.mp hx)).2 y hy)) fu k L fun x hx => List.mem_range.mpr (hL x hx))
  rw [List.length_range] at this
  exact this
/-- the places that are reached -/
def reach (f : Nat) (E : List (List Nat)) : List Nat := bfs (fun p => E.getD p []) E.length 0 [f]
theorem reach_part (hm : Ok f V E) : Part V.length E (reach f E) := by
  have nd := bfs_nodup (succ := fun p => E.getD p []) E.length 0 [f] (by simp)
  have lt := bfs_in (U := List.range E.length) (succ := fun p => E.getD p []) (fun x hx y hy => List.mem_range.mpr ((hm.row x (List.mem_range.mp hx)).2 y hy)) E.length 0 [f] (fun x hx => by rw [List.mem_singleton.mp hx]; exact List.mem_range.mpr hm.fst)
  have sz := nodup_small hm E.length 0 [f] (by simp) (fun x hx => by rw [List.mem_singleton.mp hx]; exact hm.fst)
  exact ⟨nd, fun p hp => by rw [hm.len]; exact List.mem_range.mp (lt p hp), bfs_closed E.length 0 [f] (fun i hi => absurd hi (Nat.not_lt_zero _)) (by omega)⟩
theorem visit_ok {v : Vd} (hm : Ok f V E) (M : D) (r : List Nat) (hr : r.length ≤ 1000) (L : List Nat) (hL : L.length ≤ 1000) (c3 : Cell) (x4 : Cell) :
    ∃ y4, forD (turnD (.nm 4) l0_reached_nodes) (nats r) [.d M, .own (nats L), .dic (seenD nat (fun _ => .bool true) 0 L), c3, x4] = .nx [.d M, .own (nats (seenGo L r)), .dic (seenD nat (fun _ => .bool true) 0 (seenGo L r)), c3, y4] := by
  have go : ∀ (xs L : List Nat), xs.foldl add1 L = seenGo L xs := fun xs => by
    induction xs with
    | nil => exact fun _ => rfl
    | cons x xs ih => exact fun L => ih (add1 L x)
  have loop := forD_foldI (em := nat) (g := turnD (.nm 4) l0_reached_nodes) (J := Cell) (σ := List Nat) (step := add1)
    (E := fun s j => [.d M, .own (nats s), .dic (seenD nat (fun _ => .bool true) 0 s), c3, j]) (fun i s => s.length ≤ L.length + i) r 0 (by
      intro i s x j hx hs
      have hi := (List.getElem?_eq_some_iff.mp hx).1
      refine ⟨.d (nat x), ?_, Nat.le_trans (add1_len _ _) (by omega)⟩
      have l1 : s.length < 16777216 := by omega
      have a1 := seen_notIn (val := fun _ => PySem.PyData.bool true) nat_key x s
      by_cases m : x ∈ s
      · rw [decide_eq_true m] at a1
        rw [add1_old m]
        simp -implicitDefEqProofs [l0_reached_nodes, a1]
      · have a4 := seen_put (val := fun _ => PySem.PyData.bool true) nat_key m (by omega)
        rw [decide_eq_false m] at a1
        rw [add1_new m]
        simp -implicitDefEqProofs [l0_reached_nodes, a1, a4, dicAt, l1]) L x4 (by omega)
  obtain ⟨y4, h, _⟩ := loop
  rw [go] at h
  exact ⟨y4, h⟩
theorem reached_ok (hm : Ok f V E) : m_reached_nodes [mon rd f V E] = .ok (.own (nats (reach f E))) := by
  have sm := hm.small
  have l1 : lstR (.ok [PySem.PyData.int (f : Int)]) = .ok (.own [.int (f : Int)]) := lstR_ok (by simp)
  have d1 := seen_one (val := fun _ => PySem.PyData.bool true) nat_key f
  have w := whileD_ind (c := l1_reached_nodes) (g := l2_reached_nodes)
    (P := fun m e => ∃ k L y4, k + m = E.length ∧ L.Nodup ∧ (∀ x ∈ L, x < E.length) ∧ bfs (fun p => E.getD p []) m k L = reach f E ∧ e = [.d (mon rd f V E), .own (nats L), .dic (seenD nat (fun _ => .bool true) 0 L), .d (.int (k : Int)), y4])
    (Q := fun e => ∃ k y2 y4, e = [.d (mon rd f V E), .own (nats (reach f E)), y2, .d (.int (k : Int)), y4]) (by
      rintro m e ⟨k, L, y4, hk, nd, lt, hb, rfl⟩
      have hlen := nodup_small hm 0 k L nd lt
      have hlen : L.length ≤ E.length := hlen
      have tl := nat_lt (i := k) (n := L.length)
      by_cases q : k < L.length
      · rw [decide_eq_true q] at tl
        have hx := getS (l := L) (z := 0) q
        have hxl := lt _ (List.mem_of_getElem? hx)
        obtain ⟨r1, r2⟩ := hm.row _ hxl
        obtain ⟨m, rfl⟩ : ∃ q, m = q + 1 := ⟨m - 1, by omega⟩
        rw [bfs_step hx] at hb
        obtain ⟨y4', hv⟩ := visit_ok (v := .sure) hm (mon rd f V E) (E.getD (L.getD k 0) []) r1 L (by omega) (.d (.int (k : Int))) y4
        have i1 := ixO (em := nat) hx
        have i2 := step_at (E := E) hxl
        refine .inr ⟨by simp -implicitDefEqProofs [l1_reached_nodes, tl], [.d (mon rd f V E), .own (nats (seenGo L (E.getD (L.getD k 0) []))), .dic (seenD nat (fun _ => .bool true) 0 (seenGo L (E.getD (L.getD k 0) []))), .d (.int ((k + 1 : Nat) : Int)), y4'], ?_, m, by omega, k + 1, _, y4', by omega, nodup_seenGo _ _ nd, fun x hx => ?_, hb, rfl⟩
        · have ci : cellI (.d (.int (k : Int))) = .ok (k : Int) := rfl
          generalize E.getD (L.getD k 0) [] = r at *
          simp -implicitDefEqProofs [l2_reached_nodes, mon3, i1, i2, step_items, stepD, hv, -List.getD_eq_getElem?_getD]
        · rcases (mem_seenGo _ _ _).mp hx with hx | hx
          · exact lt x hx
          · exact r2 x hx
      · rw [decide_eq_false q] at tl
        rw [bfs_stop (by omega)] at hb
        subst hb
        exact .inl ⟨by simp -implicitDefEqProofs [l1_reached_nodes, tl], k, _, y4, rfl⟩) E.length 1000000 [.d (mon rd f V E), .own (nats [f]), .dic (seenD nat (fun _ => .bool true) 0 [f]), .d (.int ((0 : Nat) : Int)), .un] ⟨0, [f], _, by omega, by simp, fun x hx => by rw [List.mem_singleton.mp hx]; exact hm.fst, rfl, rfl⟩ (by omega)
  obtain ⟨e', w, k, y2, y4, rfl⟩ := w
  unfold m_reached_nodes runD g_reached_nodes
  simp -implicitDefEqProofs at d1 w
  simp -implicitDefEqProofs [startD, mon1, l1, setR, d1, w]
end
end K89
namespace K89
open DL L2
open K88 (add1 seenGo num numGo RG cnt firsts fstStep num_rg cnt_le rg_max firsts_get firsts_succ firsts_len)
def isL (c : Cell) (G : List Nat) : Prop := c = .own (nats G) ∨ c = .d (.list (nats G))
theorem isL_get {c : Cell} {G : List Nat} (h : isL c G) {a : Nat} (ha : a < G.length) : idxD c (.d (.int (a : Int))) = .ok (.d (.int ((G.getD a 0 : Nat) : Int))) := by
  rcases h with rfl | rfl
  · exact ixO (getS ha)
  · exact ixL (getS ha)
theorem isL_c {c : Cell} {G : List Nat} (h : isL c G) (e : Env) : getC 0 (c :: e) = .ok c := by rcases h with rfl | rfl <;> rfl
theorem isL_max {c : Cell} {G : List Nat} (h : isL c G) (hr : RG 0 G) (hn : G ≠ []) : maxFD c (.d (.int 0)) = .ok (.d (.int ((cnt 0 G : Int) - 1))) := by
  have ic : intsC c = some (G.map fun n : Nat => (n : Int)) := by
    have e : nats G = (G.map fun n : Nat => (n : Int)).map PySem.PyData.int := by rw [List.map_map]; rfl
    rcases h with rfl | rfl
    · show intsOf (nats G) = _
      rw [e, intsOf_map]
    · show intsOf (nats G) = _
      rw [e, intsOf_map]
  cases G with
  | nil => exact absurd rfl hn
  | cons g gs =>
    rcases hr with ⟨a, _⟩ | ⟨a, b⟩
    · exact absurd a (Nat.not_lt_zero _)
    · have := rg_max gs 0 b
      unfold maxFD
      rw [ic]
      show R.ok (Cell.d (.int ((gs.map fun n : Nat => (n : Int)).foldl max (g : Int)))) = _
      rw [a, this, cnt, if_neg (by omega)]
def gOf (G : List Nat) (r : List Nat) : List Nat := r.map fun c => G.getD c 0
theorem groups_at {c : Cell} {G : List Nat} (h : isL c G) {r : List Nat} (hr : ∀ x ∈ r, x < G.length) (hl : r.length ≤ 1000) {v : Nat} {f : Env → R Cell} {e : Env} (hf : ∀ x ∈ r, f ((wipeC e [v]).set v (.d (nat x))) = idxD c (.d (.int (x : Int)))) :
    lcL (lcD [v] (.nm v) (fun en => R.ok true) f (nats r) e) = .ok (.own (nats (gOf G r))) := by
  rw [lc_of (em := nat) (g := fun x => nat (G.getD x 0)) (by omega) (fun x hx => by rw [hf x hx, isL_get h (hr x hx)])]
  simp only [gOf, nats, List.map_map]
  rfl
theorem tup2 (a b : D) : tupR (.ok [a, b]) = .ok (.d (.tuple [a, b])) := tupR_ok (by simp)
theorem tup3 (a b c : D) : tupR (.ok [a, b, c]) = .ok (.d (.tuple [a, b, c])) := tupR_ok (by simp)
theorem tup4 (a b c d : D) : tupR (.ok [a, b, c, d]) = .ok (.d (.tuple [a, b, c, d])) := tupR_ok (by simp)
section
variable {V : List Vd} {E : List (List Nat)}
/-- what classes_of asks -/
structure Cl (V : List Vd) (E : List (List Nat)) : Prop where
  len : V.length = E.length
  pos : 0 < E.length
  small : E.length ≤ 1000
  row : ∀ a < E.length, (E.getD a []).length ≤ 1000 ∧ ∀ c ∈ E.getD a [], c < E.length
theorem class_body (hg : Cl V E) {c2 : Cell} {G : List Nat} (h2 : isL c2 G) (lg : G.length = E.length) (rg : RG 0 G) (mk j3 j4 j5 j6 : Cell) :
    ∃ y3 y4 y5, l2_classes_of [mk, .d (.list (E.map stepD)), c2, j3, j4, j5, j6] = if cnt 0 (dfine E G) = cnt 0 G then .rt c2 else .nx [mk, .d (.list (E.map stepD)), .d (.list (nats (dfine E G))), y3, y4, y5, j6] := by
  have sm := hg.small
  have l0 : lstR (.ok []) = .ok (.own []) := lstR_ok (by decide)
  have le : lenD (.d (.list (E.map stepD))) = .ok (.d (.int (E.length : Int))) := by
    show R.ok (Cell.d (.int ((E.map stepD).length : Int))) = _
    rw [List.length_map]
  have r1 : rng1D (.d (.int (E.length : Int))) = .ok (nats (List.range E.length)) := rng_nats (by omega)
  have loop := forD_foldI (em := nat) (g := turnD (.nm 4) l0_classes_of) (J := Cell) (σ := List (Nat × List Nat)) (step := fun s a => s ++ [dkey E G a])
    (E := fun s j => [mk, .d (.list (E.map stepD)), c2, .own (s.map gkD), j, j5, j6]) (fun i s => s.length = i) (List.range E.length) 0 (by
      rintro i s a x4 ha hs
      have hs : s.length = i := by omega
      obtain ⟨hi, ha⟩ := List.getElem?_eq_some_iff.mp ha
      rw [List.getElem_range] at ha
      subst ha
      rw [List.length_range] at hi
      have s1 : idxD (.d (.list (E.map stepD))) (.d (.int (i : Int))) = .ok (.d (stepD (E.getD i []))) := ixL (getS hi)
      obtain ⟨q1, q2⟩ := hg.row i hi
      have k1 := groups_at h2 (r := E.getD i []) (by rw [lg]; exact q2) q1 (v := 6) (e := [mk, .d (.list (E.map stepD)), c2, .own (s.map gkD), .d (nat i), j5, j6]) (f := fun en => (((getC 2 en).bind fun x => (getC 6 en).bind fun y => idxD x y).bind Cell.val)) (fun x hx => by
        have := isL_get h2 (a := x) (by rw [lg]; exact q2 x hx)
        simp -implicitDefEqProofs [isL_c h2, this, -List.getD_eq_getElem?_getD])
      have k2 := isL_get h2 (a := i) (by rw [lg]; exact hi)
      have t1 : tupR (.ok [PySem.PyData.int ((G.getD i 0 : Nat) : Int), .tuple (nats (gOf G (E.getD i [])))]) = .ok (.d (gkD (dkey E G i))) := tup2 _ _
      have l1 : s.length < 16777216 := by omega
      refine ⟨.d (nat i), ?_, by simp; omega⟩
      try simp -implicitDefEqProofs [-List.getD_eq_getElem?_getD, -List.map_map] at k1
      simp -implicitDefEqProofs [l0_classes_of, s1, step_items, k1, isL_c h2, k2, t1, l1, -List.getD_eq_getElem?_getD, -List.map_map]) [] j4 rfl
  obtain ⟨y4, h1, _⟩ := loop
  rw [fold_snoc'] at h1
  simp only [List.map_nil, List.nil_append] at h1
  have g2 : m_grouped [.list (((List.range E.length).map (dkey E G)).map gkD)] = .ok (.own (nats (dfine E G))) := grouped_ok gk_key ((List.range E.length).map (dkey E G)) (by rw [List.length_map, List.length_range]; omega)
  have ne : ∀ (X : List Nat), X.length = E.length → X ≠ [] := fun X hX e => by
    have := hg.pos
    rw [e, List.length_nil] at hX
    omega
  have m1 := isL_max (c := .own (nats (dfine E G))) (.inl rfl) (num_rg _ []) (ne _ dfine_len)
  have m2 := isL_max h2 rg (ne _ lg)
  have eq1 : eqD (.d (.int ((cnt 0 (dfine E G) : Int) - 1))) (.d (.int ((cnt 0 G : Int) - 1))) = .ok (.d (.bool (decide (cnt 0 (dfine E G) = cnt 0 G)))) := by
    have q : ((cnt 0 (dfine E G) : Int) - 1 = (cnt 0 G : Int) - 1) ↔ cnt 0 (dfine E G) = cnt 0 G := by omega
    rw [int_eqD, decide_eq_decide.mpr q]
  refine ⟨.d (.list (((List.range E.length).map (dkey E G)).map gkD)), y4, .d (.list (nats (dfine E G))), ?_⟩
  generalize dfine E G = H at g2 m1 eq1 ⊢
  generalize ((List.range E.length).map (dkey E G)).map gkD = ks at g2 h1 ⊢
  by_cases q : cnt 0 H = cnt 0 G
  · rw [decide_eq_true q] at eq1
    rw [if_pos q]
    simp -implicitDefEqProofs [l2_classes_of, l0, setR, le, r1, h1, g2, m1, m2, eq1, isL_c h2, -List.map_map]
  · rw [decide_eq_false q] at eq1
    rw [if_neg q]
    simp -implicitDefEqProofs [l2_classes_of, l0, setR, le, r1, h1, g2, m1, m2, eq1, isL_c h2, -List.map_map]
theorem classes_ok (hg : Cl V E) : ∃ k, dgr V E (k + 1) = dgr V E k ∧ ∃ c, isL c (dgr V E k) ∧ m_classes_of [.list (V.map vt), .list (E.map stepD)] = .ok c := by
  have hl := hg.len
  obtain ⟨k, hk, h1, h2⟩ := dstop hl
  refine ⟨k, h1, ?_⟩
  have w := whileD_find (c := l1_classes_of) (g := l2_classes_of) (P := fun m e => ∃ i, i + m = k ∧ ∃ c2 j3 j4 j5 j6, isL c2 (dgr V E i) ∧ e = [.d (.list (V.map vt)), .d (.list (E.map stepD)), c2, j3, j4, j5, j6]) (Q := fun _ => False) (S := fun o => ∃ c, isL c (dgr V E k) ∧ o = .rt c) (by
    rintro m e ⟨i, hi, c2, j3, j4, j5, j6, hc, rfl⟩
    refine .inr ⟨by simp [l1_classes_of], ?_⟩
    obtain ⟨y3, y4, y5, hb⟩ := class_body hg hc (dgr_len hl i) (dgr_rg i) (.d (.list (V.map vt))) j3 j4 j5 j6
    by_cases q : cnt 0 (dfine E (dgr V E i)) = cnt 0 (dgr V E i)
    · have e := (dstop_cnt hl i).mp q
      have : i = k := by
        rcases Nat.lt_or_ge i k with l | l
        · exact absurd e (h2 i l)
        · omega
      subst this
      rw [if_pos q] at hb
      exact .inr ⟨by rw [hb]; rfl, c2, hc, hb⟩
    · rw [if_neg q] at hb
      have : i ≠ k := fun e => q ((dstop_cnt hl i).mpr (by rw [e]; exact h1))
      refine .inl ⟨_, hb, m - 1, by omega, i + 1, by omega, _, y3, y4, y5, j6, .inr rfl, rfl⟩) k 1000000 [.d (.list (V.map vt)), .d (.list (E.map stepD)), .own (nats (num V)), .un, .un, .un, .un] ⟨0, by omega, _, _, _, _, _, .inl rfl, rfl⟩ (by have := hg.small; omega)
  rcases w with ⟨_, _, q⟩ | ⟨_, c, hc, w⟩
  · exact q.elim
  refine ⟨c, hc, ?_⟩
  have g1 := grouped_ok vt_key V (by rw [hl]; have := hg.small; omega)
  unfold m_classes_of runD g_classes_of
  simp -implicitDefEqProofs [startD, g1, setR, w]
  rcases hc with rfl | rfl <;> rfl
/-! ### reduce -/
variable {rd : List D} {f : Nat}
def redV (V : List Vd) (P G : List Nat) : List Vd := (firsts G P.length).map fun a => V.getD (P.getD a 0) .sure
def redE (E : List (List Nat)) (P G : List Nat) : List (List Nat) := (firsts G P.length).map fun a => gOf G ((subE E P).getD a [])
theorem firsts_le_n {G : List Nat} : ∀ n, (firsts G n).length ≤ n
  | 0 => by simp [firsts]
  | n + 1 => by
    have := firsts_le_n (G := G) n
    rw [firsts_succ, fstStep]
    split
    · simp; omega
    · omega
theorem reach_in (f : Nat) (E : List (List Nat)) : f ∈ reach f E := by
  obtain ⟨t, e⟩ := bfs_pre (succ := fun p => E.getD p []) E.length 0 [f]
  unfold reach
  rw [e]
  exact List.mem_append_left _ (by simp)
theorem reduce_ok (hm : Ok f V E) (hrd : rd.length ≤ 1000) : ∃ k, dgr (sub V .sure (reach f E)) (subE E (reach f E)) (k + 1) = dgr (sub V .sure (reach f E)) (subE E (reach f E)) k ∧
    m_reduce [mon rd f V E] = .ok (.d (mon rd 0 (redV V (reach f E) (dgr (sub V .sure (reach f E)) (subE E (reach f E)) k)) (redE E (reach f E) (dgr (sub V .sure (reach f E)) (subE E (reach f E)) k)))) := by
  have sm := hm.small
  have hP := reach_part hm
  have hre := reached_ok (rd := rd) hm
  have rin := reach_in f E
  have Plen : (reach f E).length ≤ E.length := by
    have := nodup_len _ (List.range E.length) hP.nd fun p hp => List.mem_range.mpr (by rw [← hm.len]; exact hP.lt p hp)
    rw [List.length_range] at this
    exact this
  generalize reach f E = P at *
  have Pl : ∀ p ∈ P, p < E.length := fun p hp => by rw [← hm.len]; exact hP.lt p hp
  have lv : (sub V .sure P).length = P.length := List.length_map _
  have le : (subE E P).length = P.length := List.length_map _
  have hCl : Cl (sub V .sure P) (subE E P) := ⟨by rw [lv, le], by rw [le]; exact List.length_pos_of_mem rin, by omega, fun a ha => ⟨by
    rw [le] at ha
    rw [subE_get ha, List.length_map]
    exact (hm.row _ (Pl _ (getD_mem ha))).1, subE_in hP a ha⟩⟩
  obtain ⟨k, hk, c, hc, hcl⟩ := classes_ok hCl
  refine ⟨k, hk, ?_⟩
  have lg : (dgr (sub V .sure P) (subE E P) k).length = P.length := (dgr_len hCl.len k).trans le
  have rowl := hCl.row
  generalize hG : dgr (sub V .sure P) (subE E P) k = G at *
  clear hG hk
  have l0 : lstR (.ok []) = .ok (.own []) := lstR_ok (by decide)
  have r1 : rng1D (.d (.int (P.length : Int))) = .ok (nats (List.range P.length)) := rng_nats (by omega)
  -- places
  have loop1 := forD_ind (g := turnD (.nm 3) l0_reduce) (xs := nats (List.range P.length)) (e := [.d (mon rd f V E), .own (nats P), .dic [], .un, .un, .un, .un, .un, .un, .un, .un])
    (P := fun i e => ∃ y3, e = [.d (mon rd f V E), .own (nats P), .dic (seenD nat nat 0 (P.take i)), y3, .un, .un, .un, .un, .un, .un, .un]) ⟨.un, rfl⟩ (fun i x e hx hP' => by
    obtain ⟨y3, rfl⟩ := hP'
    rw [List.getElem?_map, Option.map_eq_some_iff] at hx
    obtain ⟨j, hj, rfl⟩ := hx
    obtain ⟨hi, hj⟩ := List.getElem?_eq_some_iff.mp hj
    rw [List.getElem_range] at hj
    subst hj
    rw [List.length_range] at hi
    have q := getS (l := P) (z := 0) hi
    have i1 := ixO (em := nat) q
    have nin : P.getD i 0 ∉ P.take i := fun m => by
      obtain ⟨j, hj⟩ := List.getElem?_of_mem m
      have lj := (List.getElem?_eq_some_iff.mp hj).1
      rw [List.length_take] at lj
      rw [List.getElem?_take_of_lt (by omega)] at hj
      have a := idx_get hP.nd hj
      have b := idx_get hP.nd q
      omega
    have p1 := seen_put (val := nat) nat_key nin (by rw [List.length_take]; omega)
    rw [List.length_take, Nat.min_eq_left (by omega), ← K88.take_snoc hi] at p1
    refine ⟨_, ?_, .d (nat i), rfl⟩
    simp -implicitDefEqProofs [l0_reduce, i1, dicAt, p1, -List.getD_eq_getElem?_getD])
  obtain ⟨e1, h1, y3, rfl⟩ := loop1
  rw [List.length_map, List.length_range, List.take_of_length_le (Nat.le_refl _)] at h1
  -- edges
  have c1 := lc_of (em := nat) (vs := [9]) (i := 9) (xs := P) (g := fun p => stepD ((E.getD p []).map fun c => P.idxOf c))
    (f := fun en => ((((((getC 0 en).bind fun x => (cstD (.int 3) en).bind fun y => idxD x y).bind fun x => (getC 9 en).bind fun y => idxD x y).bind itemsA).bind fun xs => lcL (lcD ([10] : List Nat) (.nm 10) (fun en => (R.ok true)) (fun en => ((getC 2 en).bind fun x => (getC 10 en).bind fun y => ixDD x y)) xs en)).bind tupleD))
    (e := [.d (mon rd f V E), .own (nats P), .dic (seenD nat nat 0 P), y3, .un, .un, .un, .un, .un, .un, .un]) (by omega) (fun p hp => by
      have s1 := step_at (E := E) (Pl p hp)
      have rl := (hm.row _ (Pl p hp)).1
      have inner := lc_of (em := nat) (vs := [10]) (i := 10) (xs := E.getD p []) (g := fun c => nat (P.idxOf c)) (f := fun en => ((getC 2 en).bind fun x => (getC 10 en).bind fun y => ixDD x y))
        (e := [.d (mon rd f V E), .own (nats P), .dic (seenD nat nat 0 P), y3, .un, .un, .un, .un, .un, .d (nat p), .un]) (by omega) (fun c hc => by
          have := seen_ix (val := nat) nat_key (hP.cl p hp c hc)
          simp -implicitDefEqProofs [this])
      have ei : ((E.getD p []).map fun c => nat (P.idxOf c)) = nats ((E.getD p []).map fun c => P.idxOf c) := by rw [nats, List.map_map]; rfl
      rw [ei] at inner
      try simp -implicitDefEqProofs [-List.getD_eq_getElem?_getD, -List.map_map] at inner
      simp -implicitDefEqProofs [mon3, s1, step_items, inner, stepD, -List.getD_eq_getElem?_getD, -List.map_map])
  have ec1 : (P.map fun p => stepD ((E.getD p []).map fun c => P.idxOf c)) = (subE E P).map stepD := by unfold subE; rw [List.map_map]; rfl
  rw [ec1] at c1
  have c2 := lc_of (em := nat) (vs := [9]) (i := 9) (xs := P) (g := fun p => vt (V.getD p .sure))
    (f := fun en => ((((getC 0 en).bind fun x => (cstD (.int 2) en).bind fun y => idxD x y).bind fun x => (getC 9 en).bind fun y => idxD x y).bind Cell.val))
    (e := [.d (mon rd f V E), .own (nats P), .dic (seenD nat nat 0 P), y3, .d (.list ((subE E P).map stepD)), .un, .un, .un, .un, .un, .un]) (by omega) (fun p hp => by
      have := verd_at (V := V) (a := p) (hP.lt p hp)
      simp -implicitDefEqProofs [mon2, this, -List.getD_eq_getElem?_getD])
  have ec2 : (P.map fun p => vt (V.getD p .sure)) = (sub V .sure P).map vt := by unfold sub; rw [List.map_map]; rfl
  rw [ec2] at c2
  -- members
  have loop2 := forD_foldI (em := nat) (g := turnD (.nm 3) l1_reduce) (J := Cell) (σ := List Nat) (step := fstStep G)
    (E := fun s j => [.d (mon rd f V E), .own (nats P), .dic (seenD nat nat 0 P), j, .d (.list ((subE E P).map stepD)), c, .own (nats s), .un, .un, .un, .un]) (fun i s => s.length ≤ i) (List.range P.length) 0 (by
      intro i s a x4 ha' hs
      obtain ⟨hi, ha'⟩ := List.getElem?_eq_some_iff.mp ha'
      rw [List.getElem_range] at ha'
      subst ha'
      rw [List.length_range] at hi
      have k2 := isL_get hc (a := i) (by rw [lg]; exact hi)
      have e1 : eqD (.d (.int ((G.getD i 0 : Nat) : Int))) (.d (.int (s.length : Int))) = .ok (.d (.bool (decide (G.getD i 0 = s.length)))) := by
        have q : (((G.getD i 0 : Nat) : Int) = (s.length : Int)) ↔ G.getD i 0 = s.length := by omega
        rw [int_eqD, decide_eq_decide.mpr q]
      refine ⟨.d (nat i), ?_, ?_⟩
      · by_cases q : G.getD i 0 = s.length
        · rw [decide_eq_true q] at e1
          have l1 : s.length < 16777216 := by omega
          rw [show fstStep G s i = s ++ [i] from if_pos q]
          simp -implicitDefEqProofs [l1_reduce, isL_c hc, k2, e1, l1, -List.getD_eq_getElem?_getD, -List.map_map]
        · rw [decide_eq_false q] at e1
          rw [show fstStep G s i = s from if_neg q]
          simp -implicitDefEqProofs [l1_reduce, isL_c hc, k2, e1, -List.getD_eq_getElem?_getD, -List.map_map]
      · unfold fstStep
        split
        · simp; omega
        · omega) [] y3 (Nat.le_refl 0)
  obtain ⟨z3, h2, _⟩ := loop2
  have fd : (List.range P.length).foldl (fstStep G) [] = firsts G P.length := rfl
  rw [fd, show nats [] = [] from rfl] at h2
  have fl := firsts_le_n (G := G) P.length
  have fb : ∀ a ∈ firsts G P.length, a < P.length := fun a ha => by
    obtain ⟨j, hj⟩ := List.getElem?_of_mem ha
    exact (firsts_get _ _ _ hj).2
  have c3 := lc_of (em := nat) (vs := [3]) (i := 3) (xs := firsts G P.length) (g := fun a => vt (V.getD (P.getD a 0) .sure))
    (f := fun en => ((((getC 0 en).bind fun x => (cstD (.int 2) en).bind fun y => idxD x y).bind fun x => ((getC 1 en).bind fun x => (getC 3 en).bind fun y => idxD x y).bind fun y => idxD x y).bind Cell.val))
    (e := [.d (mon rd f V E), .own (nats P), .dic (seenD nat nat 0 P), z3, .d (.list ((subE E P).map stepD)), c, .own (nats (firsts G P.length)), .un, .un, .un, .un]) (by omega) (fun a ha => by
      have q := getS (l := P) (z := 0) (fb a ha)
      have i1 := ixO (em := nat) q
      have i2 := verd_at (V := V) (hP.lt _ (getD_mem (z := 0) (fb a ha)))
      simp -implicitDefEqProofs [mon2, i1, i2, -List.getD_eq_getElem?_getD])
  have ec3 : ((firsts G P.length).map fun a => vt (V.getD (P.getD a 0) .sure)) = (redV V P G).map vt := by unfold redV; rw [List.map_map]; rfl
  rw [ec3] at c3
  have c4 := fun w7 => lc_of (em := nat) (vs := [3]) (i := 3) (xs := firsts G P.length) (g := fun a => stepD (gOf G ((subE E P).getD a [])))
    (f := fun en => (((((getC 4 en).bind fun x => (getC 3 en).bind fun y => idxD x y).bind itemsA).bind fun xs => lcL (lcD ([10] : List Nat) (.nm 10) (fun en => (R.ok true)) (fun en => (((getC 5 en).bind fun x => (getC 10 en).bind fun y => idxD x y).bind Cell.val)) xs en)).bind tupleD))
    (e := [.d (mon rd f V E), .own (nats P), .dic (seenD nat nat 0 P), z3, .d (.list ((subE E P).map stepD)), c, .own (nats (firsts G P.length)), w7, .un, .un, .un]) (by omega) (fun a ha => by
      have hal : a < (subE E P).length := by rw [le]; exact fb a ha
      have s1 : idxD (.d (.list ((subE E P).map stepD))) (.d (.int (a : Int))) = .ok (.d (stepD ((subE E P).getD a []))) := ixL (getS hal)
      obtain ⟨q1, q2⟩ := rowl a hal
      have k3 := groups_at hc (r := (subE E P).getD a []) (by rw [lg, ← le]; exact q2) q1 (v := 10) (e := [.d (mon rd f V E), .own (nats P), .dic (seenD nat nat 0 P), .d (nat a), .d (.list ((subE E P).map stepD)), c, .own (nats (firsts G P.length)), w7, .un, .un, .un]) (f := fun en => (((getC 5 en).bind fun x => (getC 10 en).bind fun y => idxD x y).bind Cell.val)) (fun x hx => by
        have := isL_get hc (a := x) (by rw [lg, ← le]; exact q2 x hx)
        simp -implicitDefEqProofs [isL_c hc, this, -List.getD_eq_getElem?_getD])
      try simp -implicitDefEqProofs [-List.getD_eq_getElem?_getD, -List.map_map] at k3
      simp -implicitDefEqProofs [s1, step_items, k3, stepD, -List.getD_eq_getElem?_getD, -List.map_map])
  have ec4 : ((firsts G P.length).map fun a => stepD (gOf G ((subE E P).getD a []))) = (redE E P G).map stepD := by unfold redE; rw [List.map_map]; rfl
  rw [ec4] at c4
  have t4 := tup4 (.tuple rd) (.int 0) (.tuple ((redV V P G).map vt)) (.tuple ((redE E P G).map stepD))
  have em : mon rd 0 (redV V P G) (redE E P G) = .tuple [.tuple rd, .int 0, .tuple ((redV V P G).map vt), .tuple ((redE E P G).map stepD)] := by unfold mon; rfl
  rw [em, ← t4]
  clear t4 em ec1 ec2 ec3 ec4
  try simp -implicitDefEqProofs [-List.map_map, -List.getD_eq_getElem?_getD] at c1
  try simp -implicitDefEqProofs [-List.map_map, -List.getD_eq_getElem?_getD] at c2
  try simp -implicitDefEqProofs [-List.map_map, -List.getD_eq_getElem?_getD] at c3
  try simp -implicitDefEqProofs [-List.map_map, -List.getD_eq_getElem?_getD] at c4
  have t4 := tup4 (.tuple rd) (.int 0) (.tuple ((redV V P G).map vt)) (.tuple ((redE E P G).map stepD))
  unfold m_reduce runD g_reduce
  simp -implicitDefEqProofs [startD, hre, setR, r1, h1, c1, c2, hcl, isL_c hc, l0, h2, c3, c4, mon0, t4, -List.map_map, -List.getD_eq_getElem?_getD]
end
end K89
namespace K89
open DL L2
open K88 (add1 seenGo num numGo RG cnt firsts fstStep firsts_get)
theorem add1_fold : ∀ (xs L : List Nat), xs.foldl add1 L = seenGo L xs
  | [], _ => rfl
  | x :: xs, L => add1_fold xs (add1 L x)
section
variable {rd : List D} {f : Nat} {V : List Vd} {E : List (List Nat)}
/-! ### the law's reach -/
theorem lvisit_ok (c0 c1 c3 : Cell) (r : List Nat) (hr : r.length ≤ 1000) (L : List Nat) (hL : L.length ≤ 1000) (x4 : Cell) :
    ∃ y4, forD (turnD (.nm 4) l0_law_reach) (nats r) [c0, c1, .own (nats L), c3, x4] = .nx [c0, c1, .own (nats (seenGo L r)), c3, y4] := by
  have loop := forD_foldI (em := nat) (g := turnD (.nm 4) l0_law_reach) (J := Cell) (σ := List Nat) (step := add1)
    (E := fun s j => [c0, c1, .own (nats s), c3, j]) (fun i s => s.length ≤ L.length + i) r 0 (by
      intro i s x j hx hs
      have hi := (List.getElem?_eq_some_iff.mp hx).1
      refine ⟨.d (nat x), ?_, Nat.le_trans (add1_len _ _) (by omega)⟩
      have l1 : s.length < 16777216 := by omega
      have a1 := Enc.natE.notInO (by decide) x s
      by_cases m : x ∈ s
      · rw [decide_eq_true m] at a1
        rw [add1_old m]
        simp -implicitDefEqProofs [l0_law_reach, a1]
      · rw [decide_eq_false m] at a1
        rw [add1_new m]
        simp -implicitDefEqProofs [l0_law_reach, a1, l1]) L x4 (by omega)
  obtain ⟨y4, h, _⟩ := loop
  rw [add1_fold] at h
  exact ⟨y4, h⟩
theorem lreach_ok (hm : Ok f V E) : m_law_reach [mon rd f V E, .int (f : Int)] = .ok (.own (nats (reach f E))) := by
  have sm := hm.small
  have l1 : lstR (.ok [PySem.PyData.int (f : Int)]) = .ok (.own [.int (f : Int)]) := lstR_ok (by simp)
  have lv : lenD (.d (.tuple (V.map vt))) = .ok (.d (.int (E.length : Int))) := by
    show R.ok (Cell.d (.int ((V.map vt).length : Int))) = _
    rw [List.length_map, hm.len]
  have r1 : rng1D (.d (.int (E.length : Int))) = .ok (nats (List.range E.length)) := rng_nats (by omega)
  obtain ⟨e', h, hP⟩ := forD_ind (g := turnD (.nm 3) l1_law_reach) (xs := nats (List.range E.length)) (e := [.d (mon rd f V E), .d (.int (f : Int)), .own (nats [f]), .un, .un])
    (P := fun i e => ∃ L y3 y4, L.Nodup ∧ (∀ x ∈ L, x < E.length) ∧ bfs (fun p => E.getD p []) (E.length - i) i L = reach f E ∧ e = [.d (mon rd f V E), .d (.int (f : Int)), .own (nats L), y3, y4]) ⟨[f], _, _, by simp, fun x hx => by rw [List.mem_singleton.mp hx]; exact hm.fst, rfl, rfl⟩ (fun i x e hx hP => by
      obtain ⟨L, y3, y4, nd, lt, hb, rfl⟩ := hP
      rw [List.getElem?_map, Option.map_eq_some_iff] at hx
      obtain ⟨j, hj, rfl⟩ := hx
      obtain ⟨hi, hj⟩ := List.getElem?_eq_some_iff.mp hj
      rw [List.getElem_range] at hj
      subst hj
      rw [List.length_range] at hi
      have hlen : L.length ≤ E.length := nodup_small hm 0 i L nd lt
      have tl := nat_lt (i := i) (n := L.length)
      by_cases q : i < L.length
      · rw [decide_eq_true q] at tl
        have hx := getS (l := L) (z := 0) q
        have hxl := lt _ (List.mem_of_getElem? hx)
        obtain ⟨r1, r2⟩ := hm.row _ hxl
        obtain ⟨m, hm'⟩ : ∃ q, E.length - i = q + 1 := ⟨E.length - i - 1, by omega⟩
        rw [hm', bfs_step hx] at hb
        obtain ⟨y4', hv⟩ := lvisit_ok (.d (mon rd f V E)) (.d (.int (f : Int))) (.d (nat i)) (E.getD (L.getD i 0) []) r1 L (by omega) y4
        have i1 := ixO (em := nat) hx
        have i2 := step_at (E := E) hxl
        refine ⟨[.d (mon rd f V E), .d (.int (f : Int)), .own (nats (seenGo L (E.getD (L.getD i 0) []))), .d (nat i), y4'], ?_, _, _, _, nodup_seenGo _ _ nd, fun x hx => ?_, by rw [show E.length - (i + 1) = m by omega]; exact hb, rfl⟩
        · generalize E.getD (L.getD i 0) [] = r at *
          simp -implicitDefEqProofs [l1_law_reach, tl, mon3, i1, i2, step_items, stepD, hv, -List.getD_eq_getElem?_getD]
        · rcases (mem_seenGo _ _ _).mp hx with hx | hx
          · exact lt x hx
          · exact r2 x hx
      · rw [decide_eq_false q] at tl
        rw [bfs_stop (by omega)] at hb
        refine ⟨[.d (mon rd f V E), .d (.int (f : Int)), .own (nats L), .d (nat i), y4], ?_, L, _, _, nd, lt, by rw [bfs_stop (by omega)]; exact hb, rfl⟩
        simp -implicitDefEqProofs [l1_law_reach, tl, -List.getD_eq_getElem?_getD])
  obtain ⟨L, y3, y4, _, _, hb, rfl⟩ := hP
  rw [List.length_map, List.length_range, Nat.sub_self] at hb
  have hb : L = reach f E := hb
  subst hb
  unfold m_law_reach runD g_law_reach
  simp -implicitDefEqProofs at h
  simp -implicitDefEqProofs [startD, l1, setR, mon2, lv, r1, h]
/-! ### the law's table -/
def at2 (T : List (List Bool)) (a b : Nat) : Bool := (T.getD a []).getD b false
def set2 (T : List (List Bool)) (a b : Nat) : List (List Bool) := T.set a ((T.getD a []).set b true)
def rows2 (T : List (List Bool)) : List (List D) := T.map fun r => r.map PySem.PyData.bool
def fc (T : List (List Bool)) : Nat := (T.map fun r => r.count false).sum
def Sq (n : Nat) (T : List (List Bool)) : Prop := T.length = n ∧ ∀ r ∈ T, r.length = n
theorem sq_row {n : Nat} {T : List (List Bool)} (h : Sq n T) {a : Nat} (ha : a < n) : (T.getD a []).length = n := h.2 _ (getD_mem (by rw [h.1]; exact ha))
theorem sq_set {n : Nat} {T : List (List Bool)} (h : Sq n T) {a b : Nat} (ha : a < n) : Sq n (set2 T a b) := by
  refine ⟨by unfold set2; rw [List.length_set]; exact h.1, fun r hr => ?_⟩
  unfold set2 at hr
  rcases List.mem_or_eq_of_mem_set hr with hr | rfl
  · exact h.2 r hr
  · rw [List.length_set]; exact sq_row h ha
theorem at_set {n : Nat} {T : List (List Bool)} (h : Sq n T) {a b x y : Nat} (ha : a < n) (hb : b < n) : at2 (set2 T a b) x y = if x = a ∧ y = b then true else at2 T x y := by
  unfold at2 set2
  have la : a < T.length := by rw [h.1]; exact ha
  have lb := sq_row h ha
  by_cases q : x = a
  · subst q
    have e1 : (T.set x ((T.getD x []).set b true)).getD x [] = (T.getD x []).set b true := by
      rw [List.getD_eq_getElem?_getD, List.getElem?_set_self la]; rfl
    rw [e1]
    by_cases q2 : y = b
    · subst q2
      rw [if_pos ⟨rfl, rfl⟩, List.getD_eq_getElem?_getD, List.getElem?_set_self (by omega)]; rfl
    · rw [if_neg (fun z => q2 z.2), List.getD_eq_getElem?_getD, List.getElem?_set_ne (fun z => q2 z.symm), ← List.getD_eq_getElem?_getD]
  · have e1 : (T.set a ((T.getD a []).set b true)).getD x [] = T.getD x [] := by
      rw [List.getD_eq_getElem?_getD, List.getElem?_set_ne (fun z => q z.symm), ← List.getD_eq_getElem?_getD]
    rw [e1, if_neg (fun z => q z.1)]
theorem count_set : ∀ (r : List Bool) (b : Nat), b < r.length → r.getD b false = false → (r.set b true).count false < r.count false
  | [], b, h, _ => absurd h (Nat.not_lt_zero _)
  | x :: r, 0, _, h => by
    have : x = false := h
    subst this
    show (true :: r).count false < (false :: r).count false
    rw [List.count_cons, List.count_cons]
    simp
  | x :: r, b + 1, hb, h => by
    have := count_set r b (by simpa using hb) h
    show (x :: r.set b true).count false < (x :: r).count false
    rw [List.count_cons, List.count_cons]
    omega
theorem fc_set : ∀ (T : List (List Bool)) (a b : Nat), a < T.length → b < (T.getD a []).length → at2 T a b = false → fc (set2 T a b) < fc T
  | [], a, b, h, _, _ => absurd h (Nat.not_lt_zero _)
  | r :: T, 0, b, _, hb, h => by
    have := count_set r b hb h
    show ((r.set b true).count false + fc T) < (r.count false + fc T)
    omega
  | r :: T, a + 1, b, ha, hb, h => by
    have := fc_set T a b (by simpa using ha) hb h
    show (r.count false + fc (set2 T a b)) < (r.count false + fc T)
    omega
theorem fc_le : ∀ (n : Nat) (T : List (List Bool)), (∀ r ∈ T, r.length = n) → fc T ≤ T.length * n
  | n, [], _ => Nat.zero_le _
  | n, r :: T, h => by
    have a := fc_le n T fun r hr => h r (List.mem_cons_of_mem _ hr)
    have b := List.count_le_length (a := false) (l := r)
    have c := h r List.mem_cons_self
    show r.count false + fc T ≤ (T.length + 1) * n
    rw [Nat.add_mul, Nat.one_mul]
    omega
def badK (E : List (List Nat)) (T : List (List Bool)) (a b : Nat) : List Nat := (List.range (E.getD a []).length).filter fun k => at2 T ((E.getD a []).getD k 0) ((E.getD b []).getD k 0)
/-- a table under way -/
structure Way (V : List Vd) (E : List (List Nat)) (T : List (List Bool)) : Prop where
  sq : Sq V.length T
  lab : ∀ a < V.length, ∀ b < V.length, V[a]? ≠ V[b]? → at2 T a b = true
  sound : ∀ R, Stab V E R → ∀ a < V.length, ∀ b < V.length, R a b → at2 T a b = false
/-- what the law's tables ask -/
structure Sm (f : Nat) (V : List Vd) (E : List (List Nat)) (w : Nat) : Prop where
  ok : Ok f V E
  n4 : E.length ≤ 400
  wide : ∀ a < E.length, (E.getD a []).length = w
  w1 : w ≤ 1000
variable {w : Nat}
theorem way_set (hm : Sm f V E w) {T : List (List Bool)} (h : Way V E T) {a b : Nat} (ha : a < V.length) (hb : b < V.length) (hk : badK E T a b ≠ []) : Way V E (set2 T a b) := by
  refine ⟨sq_set h.sq ha, fun x hx y hy e => ?_, fun R S x hx y hy r => ?_⟩
  · rw [at_set h.sq ha hb]
    split
    · rfl
    · exact h.lab x hx y hy e
  · rw [at_set h.sq ha hb]
    split
    · rename_i e
      obtain ⟨rfl, rfl⟩ := e
      exfalso
      apply hk
      unfold badK
      rw [List.filter_eq_nil_iff]
      intro k hkk
      have lk := List.mem_range.mp hkk
      have n := S.nxt x hx y hy r k lk
      have l2 := S.len x hx y hy r
      have rx := (hm.ok.row x (by rw [← hm.ok.len]; exact hx)).2 _ (getD_mem (z := 0) lk)
      have ry := (hm.ok.row y (by rw [← hm.ok.len]; exact hy)).2 _ (getD_mem (z := 0) (show k < (E.getD y []).length by omega))
      rw [h.sound R S _ (by rw [hm.ok.len]; exact rx) _ (by rw [hm.ok.len]; exact ry) n]
      simp
    · exact h.sound R S x hx y hy r
theorem told_of (hm : Sm f V E w) {T : List (List Bool)} (h : Way V E T) (hg : ∀ a < V.length, ∀ b < V.length, at2 T a b = false → badK E T a b = []) : Told V E (at2 T) := by
  refine ⟨⟨fun a ha b hb e => ?_, fun a ha b hb e => ?_, fun a ha b hb e j hj => ?_⟩, h.sound⟩
  · false_or_by_contra
    rename_i ne
    rw [h.lab a ha b hb ne] at e
    cases e
  · rw [hm.wide a (by rw [← hm.ok.len]; exact ha), hm.wide b (by rw [← hm.ok.len]; exact hb)]
  · have := hg a ha b hb e
    unfold badK at this
    rw [List.filter_eq_nil_iff] at this
    have := this j (List.mem_range.mpr hj)
    simpa using this
theorem row2_at {T : List (List Bool)} (h : Sq V.length T) {a : Nat} (ha : a < V.length) : idxD (.own2 (rows2 T)) (.d (.int (a : Int))) = .ok (.own ((T.getD a []).map PySem.PyData.bool)) := idx_own2 (by
  unfold rows2
  rw [List.getElem?_map, getS (z := []) (by rw [h.1]; exact ha)]; rfl)
theorem bit_at {r : List Bool} {b : Nat} (hb : b < r.length) : idxD (.own (r.map PySem.PyData.bool)) (.d (.int (b : Int))) = .ok (.d (.bool (r.getD b false))) := ixO (getS hb)
theorem ne_nil {xs : List Nat} : neD (.own (nats xs)) (.own []) = .ok (.d (.bool (!decide (xs = [])))) := Enc.natE.neO (by decide) xs []
theorem cell_turn (hm : Sm f V E w) {T : List (List Bool)} (h : Way V E T) {a b : Nat} (ha : a < V.length) (hb : b < V.length) (g : Bool) (c0 c2 x6 : Cell) :
    turnD (.nm 6) l0_law_apart (nat b) [c0, .d (.tuple (E.map stepD)), c2, .own2 (rows2 T), .d (.bool g), .d (nat a), x6, .un] =
      if at2 T a b = false ∧ badK E T a b ≠ [] then .nx [c0, .d (.tuple (E.map stepD)), c2, .own2 (rows2 (set2 T a b)), .d (.bool true), .d (nat a), .d (nat b), .un]
      else .nx [c0, .d (.tuple (E.map stepD)), c2, .own2 (rows2 T), .d (.bool g), .d (nat a), .d (nat b), .un] := by
  have l0 : lstR (.ok []) = .ok (.own []) := lstR_ok (by decide)
  have hl := hm.ok.len
  have ra := row2_at h.sq ha
  have ba := bit_at (r := T.getD a []) (b := b) (by rw [sq_row h.sq ha]; exact hb)
  have ba : idxD (.own ((T.getD a []).map PySem.PyData.bool)) (.d (.int (b : Int))) = .ok (.d (.bool (at2 T a b))) := ba
  have sa := step_at (E := E) (a := a) (by omega)
  have sb := step_at (E := E) (a := b) (by omega)
  have wa := hm.wide a (by omega)
  have wb := hm.wide b (by omega)
  have ln : lenD (.d (stepD (E.getD a []))) = .ok (.d (.int (w : Int))) := by
    show R.ok (Cell.d (.int ((nats (E.getD a [])).length : Int))) = _
    rw [List.length_map, wa]
  have r1 : rng1D (.d (.int (w : Int))) = .ok (nats (List.range w)) := rng_nats (by have := hm.w1; omega)
  have comp := lc_if (em := nat) (vs := [7]) (i := 7) (xs := List.range w) (p := fun k => at2 T ((E.getD a []).getD k 0) ((E.getD b []).getD k 0)) (g := nat)
    (c := fun en => (((((getC 3 en).bind fun x => (((getC 1 en).bind fun x => (getC 5 en).bind fun y => idxD x y).bind fun x => (getC 7 en).bind fun y => idxD x y).bind fun y => idxD x y).bind fun x => (((getC 1 en).bind fun x => (getC 6 en).bind fun y => idxD x y).bind fun x => (getC 7 en).bind fun y => idxD x y).bind fun y => idxD x y).bind Cell.val).bind asB))
    (f := fun en => (varD 7 en)) (e := [c0, .d (.tuple (E.map stepD)), c2, .own2 (rows2 T), .d (.bool g), .d (nat a), .d (nat b), .un]) (by rw [List.length_range]; have := hm.w1; omega) (fun k hk => by
      have lk := List.mem_range.mp hk
      have i1 : idxD (.d (stepD (E.getD a []))) (.d (.int (k : Int))) = .ok (.d (nat ((E.getD a []).getD k 0))) := ixT (em := nat) (getS (by omega))
      have i2 : idxD (.d (stepD (E.getD b []))) (.d (.int (k : Int))) = .ok (.d (nat ((E.getD b []).getD k 0))) := ixT (em := nat) (getS (by omega))
      have la := (hm.ok.row a (by omega)).2 _ (getD_mem (z := 0) (show k < (E.getD a []).length by omega))
      have lb := (hm.ok.row b (by omega)).2 _ (getD_mem (z := 0) (show k < (E.getD b []).length by omega))
      have r2 := row2_at h.sq (a := (E.getD a []).getD k 0) (by omega)
      have b2 : idxD (.own ((T.getD ((E.getD a []).getD k 0) []).map PySem.PyData.bool)) (.d (.int (((E.getD b []).getD k 0 : Nat) : Int))) = .ok (.d (.bool (at2 T ((E.getD a []).getD k 0) ((E.getD b []).getD k 0)))) := bit_at (by rw [sq_row h.sq (by omega)]; omega)
      simp -implicitDefEqProofs [sa, sb, i1, i2, r2, b2, -List.getD_eq_getElem?_getD, -List.map_map]) (fun x _ _ => by simp)
  have eb : ((List.range w).filter fun k => at2 T ((E.getD a []).getD k 0) ((E.getD b []).getD k 0)) = badK E T a b := by unfold badK; rw [wa]
  rw [eb] at comp
  have nb := ne_nil (xs := badK E T a b)
  generalize badK E T a b = B at *
  try simp -implicitDefEqProofs [-List.getD_eq_getElem?_getD, -List.map_map] at comp
  cases t : at2 T a b
  · rw [t] at ba
    by_cases q : B = []
    · rw [decide_eq_true q] at nb
      rw [if_neg (fun z => z.2 q)]
      simp -implicitDefEqProofs [l0_law_apart, ra, ba, sa, ln, r1, comp, l0, nb, -List.getD_eq_getElem?_getD, -List.map_map]
    · rw [decide_eq_false q] at nb
      rw [if_pos ⟨rfl, q⟩]
      have ix : ixN (rows2 T).length (a : Int) = some a := ix_nat (by unfold rows2; rw [List.length_map, h.sq.1]; exact ha)
      have ci : cellI (.d (nat a)) = .ok (a : Int) := rfl
      have cj : cellI (.d (nat b)) = .ok (b : Int) := rfl
      have gr : (rows2 T).getD a [] = (T.getD a []).map PySem.PyData.bool := by
        unfold rows2
        rw [List.getD_eq_getElem?_getD, List.getElem?_map, getS (z := []) (by rw [h.sq.1]; exact ha)]; rfl
      have st : setAt ((T.getD a []).map PySem.PyData.bool) (b : Int) (.bool true) = some (((T.getD a []).map PySem.PyData.bool).set b (.bool true)) := by
        rw [setAt_nat (by rw [List.length_map, sq_row h.sq ha]; exact hb)]
      have fin : (rows2 T).set a (((T.getD a []).map PySem.PyData.bool).set b (.bool true)) = rows2 (set2 T a b) := by
        unfold rows2 set2
        simp only [List.map_set]
      generalize rows2 T = RT at *
      simp -implicitDefEqProofs [l0_law_apart, ra, ba, sa, ln, r1, comp, l0, nb, ix, -List.getD_eq_getElem?_getD, -List.map_map]
      rw [gr, st]
      simp -implicitDefEqProofs [fin, setR, -List.getD_eq_getElem?_getD, -List.map_map]
  · rw [t] at ba
    rw [if_neg (fun z => by cases z.1)]
    simp -implicitDefEqProofs [l0_law_apart, ra, ba, -List.getD_eq_getElem?_getD, -List.map_map]
end
end K89
namespace K89
open DL L2
open K88 (add1 seenGo num numGo RG cnt firsts fstStep firsts_get)
section
variable {rd : List D} {f w : Nat} {V : List Vd} {E : List (List Nat)}
/-- how far a pass has come: nothing done and all right so far, or something done -/
def Pass (E : List (List Nat)) (T0 T : List (List Bool)) (g : Bool) (ok : Nat → Nat → Prop) : Prop :=
  (g = false ∧ T = T0 ∧ ∀ a b, ok a b → at2 T0 a b = false → badK E T0 a b = []) ∨ (g = true ∧ fc T < fc T0)
theorem row_turn (hm : Sm f V E w) {T0 T : List (List Bool)} (h : Way V E T) {g : Bool} {a : Nat} (ha : a < V.length) (hp : Pass E T0 T g fun x y => x < a ∧ y < V.length) (c0 x5 x6 : Cell) :
    ∃ T' g' y6, Way V E T' ∧ Pass E T0 T' g' (fun x y => x < a + 1 ∧ y < V.length) ∧ turnD (.nm 5) l1_law_apart (nat a) [c0, .d (.tuple (E.map stepD)), .d (.int (V.length : Int)), .own2 (rows2 T), .d (.bool g), x5, x6, .un] = .nx [c0, .d (.tuple (E.map stepD)), .d (.int (V.length : Int)), .own2 (rows2 T'), .d (.bool g'), .d (nat a), y6, .un] := by
  have hl := hm.ok.len
  have n4 := hm.n4
  have r1 : rng1D (.d (.int (V.length : Int))) = .ok (nats (List.range V.length)) := rng_nats (by omega)
  obtain ⟨e', h1, hP⟩ := forD_ind (g := turnD (.nm 6) l0_law_apart) (xs := nats (List.range V.length)) (e := [c0, .d (.tuple (E.map stepD)), .d (.int (V.length : Int)), .own2 (rows2 T), .d (.bool g), .d (nat a), x6, .un])
    (P := fun i e => ∃ T' g' y6, Way V E T' ∧ Pass E T0 T' g' (fun x y => (x < a ∧ y < V.length) ∨ (x = a ∧ y < i)) ∧ e = [c0, .d (.tuple (E.map stepD)), .d (.int (V.length : Int)), .own2 (rows2 T'), .d (.bool g'), .d (nat a), y6, .un]) ⟨T, g, x6, h, by
      rcases hp with ⟨p1, p2, p3⟩ | p
      · exact .inl ⟨p1, p2, fun x y q => by
          rcases q with q | q
          · exact p3 x y q
          · exact absurd q.2 (Nat.not_lt_zero _)⟩
      · exact .inr p, rfl⟩ (fun i x e hx hP => by
      obtain ⟨T', g', y6, hw, pp, rfl⟩ := hP
      rw [List.getElem?_map, Option.map_eq_some_iff] at hx
      obtain ⟨j, hj, rfl⟩ := hx
      obtain ⟨hi, hj⟩ := List.getElem?_eq_some_iff.mp hj
      rw [List.getElem_range] at hj
      subst hj
      rw [List.length_range] at hi
      have ct := cell_turn hm hw ha hi g' c0 (.d (.int (V.length : Int))) y6
      by_cases q : at2 T' a i = false ∧ badK E T' a i ≠ []
      · rw [if_pos q] at ct
        have lt := fc_set T' a i (by rw [hw.sq.1]; exact ha) (by rw [sq_row hw.sq ha]; exact hi) q.1
        refine ⟨_, ct, _, _, _, way_set hm hw ha hi q.2, .inr ⟨rfl, ?_⟩, rfl⟩
        rcases pp with ⟨_, rfl, _⟩ | ⟨_, p⟩
        · exact lt
        · omega
      · rw [if_neg q] at ct
        refine ⟨_, ct, _, _, _, hw, ?_, rfl⟩
        rcases pp with ⟨p1, p2, p3⟩ | p
        · refine .inl ⟨p1, p2, fun x y z t => ?_⟩
          rcases z with z | z
          · exact p3 x y (.inl z) t
          · by_cases z2 : y < i
            · exact p3 x y (.inr ⟨z.1, z2⟩) t
            · obtain ⟨rfl, z3⟩ := z
              have : y = i := by omega
              subst this
              subst p2
              false_or_by_contra
              rename_i ne
              exact q ⟨t, ne⟩
        · exact .inr p)
  obtain ⟨T', g', y6, hw, pp, rfl⟩ := hP
  rw [List.length_map, List.length_range] at pp
  refine ⟨T', g', y6, hw, ?_, ?_⟩
  · rcases pp with ⟨p1, p2, p3⟩ | p
    · exact .inl ⟨p1, p2, fun x y z => p3 x y (by
        by_cases q : x < a
        · exact .inl ⟨q, z.2⟩
        · exact .inr ⟨by omega, z.2⟩)⟩
    · exact .inr p
  · simp -implicitDefEqProofs [l1_law_apart, r1, h1, -List.getD_eq_getElem?_getD, -List.map_map]
theorem pass_ok (hm : Sm f V E w) {T : List (List Bool)} (h : Way V E T) (c0 c4 x5 x6 : Cell) :
    ∃ T' g' y5 y6, Way V E T' ∧ Pass E T T' g' (fun x y => x < V.length ∧ y < V.length) ∧ l3_law_apart [c0, .d (.tuple (E.map stepD)), .d (.int (V.length : Int)), .own2 (rows2 T), c4, x5, x6, .un] = .nx [c0, .d (.tuple (E.map stepD)), .d (.int (V.length : Int)), .own2 (rows2 T'), .d (.bool g'), y5, y6, .un] := by
  have hl := hm.ok.len
  have n4 := hm.n4
  have r1 : rng1D (.d (.int (V.length : Int))) = .ok (nats (List.range V.length)) := rng_nats (by omega)
  obtain ⟨e', h1, hP⟩ := forD_ind (g := turnD (.nm 5) l1_law_apart) (xs := nats (List.range V.length)) (e := [c0, .d (.tuple (E.map stepD)), .d (.int (V.length : Int)), .own2 (rows2 T), .d (.bool false), x5, x6, .un])
    (P := fun i e => ∃ T' g' y5 y6, Way V E T' ∧ Pass E T T' g' (fun x y => x < i ∧ y < V.length) ∧ e = [c0, .d (.tuple (E.map stepD)), .d (.int (V.length : Int)), .own2 (rows2 T'), .d (.bool g'), y5, y6, .un]) ⟨T, false, x5, x6, h, .inl ⟨rfl, rfl, fun x y z => absurd z.1 (Nat.not_lt_zero _)⟩, rfl⟩ (fun i x e hx hP => by
      obtain ⟨T', g', y5, y6, hw, pp, rfl⟩ := hP
      rw [List.getElem?_map, Option.map_eq_some_iff] at hx
      obtain ⟨j, hj, rfl⟩ := hx
      obtain ⟨hi, hj⟩ := List.getElem?_eq_some_iff.mp hj
      rw [List.getElem_range] at hj
      subst hj
      rw [List.length_range] at hi
      obtain ⟨T2, g2, z6, hw2, p2, ht⟩ := row_turn hm hw hi pp c0 y5 y6
      exact ⟨_, ht, T2, g2, _, z6, hw2, p2, rfl⟩)
  obtain ⟨T', g', y5, y6, hw, pp, rfl⟩ := hP
  rw [List.length_map, List.length_range] at pp
  refine ⟨T', g', y5, y6, hw, pp, ?_⟩
  simp -implicitDefEqProofs [l3_law_apart, setR, r1, h1, -List.getD_eq_getElem?_getD, -List.map_map]
theorem lapart_ok (hm : Sm f V E w) : ∃ T, Sq V.length T ∧ Told V E (at2 T) ∧ m_law_apart [.tuple (V.map vt), .tuple (E.map stepD)] = .ok (.own2 (rows2 T)) := by
  have hl := hm.ok.len
  have n4 := hm.n4
  have r1 : rng1D (.d (.int (V.length : Int))) = .ok (nats (List.range V.length)) := rng_nats (by omega)
  have lv : lenD (.d (.tuple (V.map vt))) = .ok (.d (.int (V.length : Int))) := by
    show R.ok (Cell.d (.int ((V.map vt).length : Int))) = _
    rw [List.length_map]
  obtain ⟨T0, hT0⟩ : ∃ T0, T0 = (List.range V.length).map fun a => (List.range V.length).map fun b => !decide (V.getD a .sure = V.getD b .sure) := ⟨_, rfl⟩
  have sq0 : Sq V.length T0 := by
    rw [hT0]
    refine ⟨by simp, fun r hr => ?_⟩
    obtain ⟨a, _, rfl⟩ := List.mem_map.mp hr
    simp
  have at0 : ∀ a < V.length, ∀ b < V.length, at2 T0 a b = !decide (V.getD a .sure = V.getD b .sure) := fun a ha b hb => by
    unfold at2
    rw [hT0]
    have e1 : ((List.range V.length).map fun a => (List.range V.length).map fun b => !decide (V.getD a .sure = V.getD b .sure)).getD a [] = (List.range V.length).map fun b => !decide (V.getD a .sure = V.getD b .sure) := by
      rw [List.getD_eq_getElem?_getD, List.getElem?_map, List.getElem?_range ha]; rfl
    rw [e1, List.getD_eq_getElem?_getD, List.getElem?_map, List.getElem?_range hb]; rfl
  have w0 : Way V E T0 := by
    refine ⟨sq0, fun a ha b hb e => ?_, fun R S a ha b hb r => ?_⟩
    · rw [at0 a ha b hb]
      rw [getS (z := .sure) ha, getS (z := .sure) hb] at e
      rw [decide_eq_false (fun z => e (by rw [z]))]; rfl
    · have e := S.lab a ha b hb r
      rw [getS (z := .sure) ha, getS (z := .sure) hb] at e
      rw [at0 a ha b hb, decide_eq_true (Option.some.inj e)]; rfl
  have w := whileD_ind (c := l2_law_apart) (g := l3_law_apart)
    (P := fun m e => ∃ T g y5 y6, Way V E T ∧ e = [.d (.tuple (V.map vt)), .d (.tuple (E.map stepD)), .d (.int (V.length : Int)), .own2 (rows2 T), .d (.bool g), y5, y6, .un] ∧ ((g = true ∧ m = fc T + 1) ∨ (g = false ∧ m = 0 ∧ ∀ a < V.length, ∀ b < V.length, at2 T a b = false → badK E T a b = [])))
    (Q := fun e => ∃ T y4 y5 y6, Way V E T ∧ (∀ a < V.length, ∀ b < V.length, at2 T a b = false → badK E T a b = []) ∧ e = [.d (.tuple (V.map vt)), .d (.tuple (E.map stepD)), .d (.int (V.length : Int)), .own2 (rows2 T), y4, y5, y6, .un]) (by
      rintro m e ⟨T, g, y5, y6, hw, rfl, ⟨rfl, hmm⟩ | ⟨rfl, hmm, hg⟩⟩
      · obtain ⟨T', g', z5, z6, hw', pp, h3⟩ := pass_ok hm hw (.d (.tuple (V.map vt))) (.d (.bool true)) y5 y6
        refine .inr ⟨by simp [l2_law_apart], _, h3, ?_⟩
        rcases pp with ⟨p1, p2, p3⟩ | ⟨p1, p2⟩
        · subst p2
          exact ⟨0, by omega, T', g', z5, z6, hw', rfl, .inr ⟨p1, rfl, fun a ha b hb => p3 a b ⟨ha, hb⟩⟩⟩
        · exact ⟨fc T' + 1, by omega, T', g', z5, z6, hw', rfl, .inl ⟨p1, rfl⟩⟩
      · exact .inl ⟨by simp [l2_law_apart], T, _, y5, y6, hw, hg, rfl⟩) (fc T0 + 1) 1000000 [.d (.tuple (V.map vt)), .d (.tuple (E.map stepD)), .d (.int (V.length : Int)), .own2 (rows2 T0), .d (.bool true), .un, .un, .un] ⟨T0, true, _, _, w0, rfl, .inl ⟨rfl, rfl⟩⟩ (by
        have a := fc_le V.length T0 sq0.2
        rw [sq0.1] at a
        have b : V.length * V.length ≤ 400 * 400 := Nat.mul_le_mul (by omega) (by omega)
        omega)
  obtain ⟨e', w, T, y4, y5, y6, hw, hg, rfl⟩ := w
  refine ⟨T, hw.sq, told_of hm hw hg, ?_⟩
  have c1 := lcR_map (vs := [5]) (i := 5) (xs := nats (List.range V.length)) (g := fun x => match x with | .int a => ((List.range V.length).map fun b => !decide (V.getD a.toNat .sure = V.getD b .sure)).map PySem.PyData.bool | _ => [])
    (f := fun en => (((varD 2 en).bind rng1D).bind fun xs => lcL (lcD ([6] : List Nat) (.nm 6) (fun en => (R.ok true)) (fun en => (((getC 0 en).bind fun x => (getC 5 en).bind fun y => idxD x y).bind fun x => ((getC 0 en).bind fun x => (getC 6 en).bind fun y => idxD x y).bind fun y => neD x y)) xs en)))
    (e := [.d (.tuple (V.map vt)), .d (.tuple (E.map stepD)), .d (.int (V.length : Int)), .un, .un, .un, .un, .un]) (by rw [List.length_map, List.length_range]; omega) (fun x hx => by
      obtain ⟨a, ha, rfl⟩ := List.mem_map.mp hx
      have ha := List.mem_range.mp ha
      have inner := lc_of (em := nat) (vs := [6]) (i := 6) (xs := List.range V.length) (g := fun b => PySem.PyData.bool (!decide (V.getD a .sure = V.getD b .sure)))
        (f := fun en => (((getC 0 en).bind fun x => (getC 5 en).bind fun y => idxD x y).bind fun x => ((getC 0 en).bind fun x => (getC 6 en).bind fun y => idxD x y).bind fun y => neD x y))
        (e := [.d (.tuple (V.map vt)), .d (.tuple (E.map stepD)), .d (.int (V.length : Int)), .un, .un, .d (nat a), .un, .un]) (by rw [List.length_range]; omega) (fun b hb => by
          have hb := List.mem_range.mp hb
          have i1 := verd_at (V := V) ha
          have i2 := verd_at (V := V) hb
          have n1 := vtE.ne (by decide) (V.getD a .sure) (V.getD b .sure)
          simp -implicitDefEqProofs [i1, i2, n1, -List.getD_eq_getElem?_getD])
      have ei : ((List.range V.length).map fun b => PySem.PyData.bool (!decide (V.getD a .sure = V.getD b .sure))) = ((List.range V.length).map fun b => !decide (V.getD a .sure = V.getD b .sure)).map PySem.PyData.bool := by rw [List.map_map]; rfl
      rw [ei] at inner
      try simp -implicitDefEqProofs [-List.getD_eq_getElem?_getD, -List.map_map] at inner
      simp -implicitDefEqProofs [r1, inner, -List.getD_eq_getElem?_getD, -List.map_map])
  have ec : (nats (List.range V.length)).map (fun x => match x with | .int a => ((List.range V.length).map fun b => !decide (V.getD a.toNat .sure = V.getD b .sure)).map PySem.PyData.bool | _ => []) = rows2 T0 := by
    unfold rows2
    rw [hT0, nats, List.map_map, List.map_map]
    rfl
  rw [ec] at c1
  unfold m_law_apart runD g_law_apart
  try simp -implicitDefEqProofs [-List.getD_eq_getElem?_getD, -List.map_map] at c1
  simp -implicitDefEqProofs [startD, lv, setR, r1, c1, w, -List.getD_eq_getElem?_getD, -List.map_map]
/-! ### smallest -/
theorem smallest_ok (hm : Sm f V E w) (hrd : rd.length ≤ 1000) {k : Nat} (hk : dgr (sub V .sure (reach f E)) (subE E (reach f E)) (k + 1) = dgr (sub V .sure (reach f E)) (subE E (reach f E)) k) :
    m_law_smallest [mon rd f V E] = .ok (.d (mon rd 0 (redV V (reach f E) (dgr (sub V .sure (reach f E)) (subE E (reach f E)) k)) (redE E (reach f E) (dgr (sub V .sure (reach f E)) (subE E (reach f E)) k)))) := by
  have hl := hm.ok.len
  have n4 := hm.n4
  have l0 : lstR (.ok []) = .ok (.own []) := lstR_ok (by decide)
  have hre := lreach_ok (rd := rd) hm.ok
  obtain ⟨T, sq, told, hap⟩ := lapart_ok hm
  have hP := reach_part hm.ok
  have kept := kept_ok (z := .sure) hP told hk _ (Nat.le_refl _)
  have plc := fun {c : Nat} (hc : c ∈ reach f E) => place_ok (z := .sure) hP told hk hc
  rw [List.take_of_length_le (Nat.le_refl _)] at kept
  have Plen : (reach f E).length ≤ E.length := by
    have := nodup_len _ (List.range E.length) hP.nd fun p hp => List.mem_range.mpr (by rw [← hm.ok.len]; exact hP.lt p hp)
    rw [List.length_range] at this
    exact this
  have lgG : (dgr (sub V .sure (reach f E)) (subE E (reach f E)) k).length = (reach f E).length := (dgr_len (by unfold sub subE; rw [List.length_map, List.length_map]) k).trans (by unfold subE; rw [List.length_map])
  generalize dgr (sub V .sure (reach f E)) (subE E (reach f E)) k = G at *
  clear hk
  generalize reach f E = P at *
  have Pl : ∀ p ∈ P, p < V.length := hP.lt
  have fl := firsts_le_n (G := G) P.length
  have fb : ∀ a ∈ firsts G P.length, a < P.length := fun a ha => by
    obtain ⟨j, hj⟩ := List.getElem?_of_mem ha
    exact (firsts_get _ _ _ hj).2
  obtain ⟨K, hK⟩ : ∃ K, K = (firsts G P.length).map fun a => P.getD a 0 := ⟨_, rfl⟩
  rw [← hK] at kept
  simp only [← hK] at plc
  have Kl : K.length = (firsts G P.length).length := by rw [hK, List.length_map]
  have Kin : ∀ p ∈ K, p ∈ P := fun p hp => by
    rw [hK] at hp
    obtain ⟨a, ha, rfl⟩ := List.mem_map.mp hp
    exact getD_mem (fb a ha)
  -- kept
  obtain ⟨j1, h1, _⟩ := forD_foldI (em := nat) (g := turnD (.nm 4) l0_law_smallest) (J := Cell) (σ := List Nat) (step := kstep (at2 T))
    (E := fun s j => [.d (mon rd f V E), .d (.list (nats P)), .own2 (rows2 T), .own (nats s), j, .un, .un, .un, .un, .un]) (fun i s => s.length ≤ i ∧ ∀ o ∈ s, o < V.length) P 0 (by
      intro i s p x4 hp hs
      obtain ⟨hs1, hs2⟩ := hs
      have hi := (List.getElem?_eq_some_iff.mp hp).1
      have pl := Pl p (List.mem_of_getElem? hp)
      have l1 : s.length < 16777216 := by omega
      have ra := row2_at sq pl
      have comp := lc_if (em := nat) (vs := [8]) (i := 8) (xs := s) (p := fun o => !at2 T p o) (g := nat)
        (c := fun en => (notR (((((getC 2 en).bind fun x => (getC 4 en).bind fun y => idxD x y).bind fun x => (getC 8 en).bind fun y => idxD x y).bind Cell.val).bind asB)))
        (f := fun en => (varD 8 en)) (e := [.d (mon rd f V E), .d (.list (nats P)), .own2 (rows2 T), .own (nats s), .d (nat p), .un, .un, .un, .un, .un]) (by omega) (fun o ho => by
          have b1 : idxD (.own ((T.getD p []).map PySem.PyData.bool)) (.d (.int (o : Int))) = .ok (.d (.bool (at2 T p o))) := bit_at (by rw [sq_row sq pl]; exact hs2 o ho)
          simp -implicitDefEqProofs [ra, b1, -List.getD_eq_getElem?_getD, -List.map_map]) (fun x _ _ => by simp)
      have ln : eqD (.d (.int ((s.filter fun o => !at2 T p o).length : Int))) (.d (.int 0)) = .ok (.d (.bool (decide ((s.filter fun o => !at2 T p o).length = 0)))) := by
        have q : (((s.filter fun o => !at2 T p o).length : Int) = 0) ↔ (s.filter fun o => !at2 T p o).length = 0 := by omega
        rw [int_eqD, decide_eq_decide.mpr q]
      refine ⟨.d (nat p), ?_, ?_, ?_⟩
      · unfold kstep
        try simp -implicitDefEqProofs [-List.getD_eq_getElem?_getD, -List.map_map] at comp
        generalize s.filter (fun o => !at2 T p o) = B at *
        by_cases q : B.length = 0
        · rw [decide_eq_true q] at ln
          rw [if_pos q]
          simp -implicitDefEqProofs [l0_law_smallest, comp, ln, l1, -List.getD_eq_getElem?_getD, -List.map_map]
        · rw [decide_eq_false q] at ln
          rw [if_neg q]
          simp -implicitDefEqProofs [l0_law_smallest, comp, ln, l1, -List.getD_eq_getElem?_getD, -List.map_map]
      · unfold kstep
        split
        · simp; omega
        · omega
      · unfold kstep
        split
        · intro o ho
          rcases List.mem_append.mp ho with ho | ho
          · exact hs2 o ho
          · rw [List.mem_singleton.mp ho]; exact pl
        · exact hs2) [] .un ⟨Nat.le_refl 0, by simp⟩
  rw [kept, show nats [] = [] from rfl] at h1
  -- edges
  obtain ⟨j2, h2, _⟩ := forD_foldI (em := nat) (g := turnD (.nm 4) l2_law_smallest) (J := Cell × Cell × Cell) (σ := List (List Nat)) (step := fun s p => s ++ [(E.getD p []).map fun c => G.getD (P.idxOf c) 0])
    (E := fun s j => [.d (mon rd f V E), .d (.list (nats P)), .own2 (rows2 T), .d (.list (nats K)), j.1, .own (s.map stepD), j.2.1, j.2.2, .un, .un]) (fun i s => s.length = i) K 0 (by
      rintro i s p ⟨x4, x6, x7⟩ hp hs
      have hi := (List.getElem?_eq_some_iff.mp hp).1
      have pP := Kin p (List.mem_of_getElem? hp)
      have pl := Pl p pP
      have l1 : s.length < 16777216 := by omega
      have s1 := step_at (E := E) (a := p) (by omega)
      have rl := (hm.ok.row p (by omega)).1
      obtain ⟨z7, h3, _⟩ := forD_foldI (em := nat) (g := turnD (.nm 7) l1_law_smallest) (J := Cell) (σ := List Nat) (step := fun t c => t ++ [G.getD (P.idxOf c) 0])
        (E := fun t j => [.d (mon rd f V E), .d (.list (nats P)), .own2 (rows2 T), .d (.list (nats K)), .d (nat p), .own (s.map stepD), .own (nats t), j, .un, .un]) (fun i t => t.length = i) (E.getD p []) 0 (by
          intro i t c y7 hc ht
          have hi := (List.getElem?_eq_some_iff.mp hc).1
          have cP := hP.cl p pP c (List.mem_of_getElem? hc)
          have l1 : t.length < 16777216 := by omega
          have r1 : rng1D (.d (.int (K.length : Int))) = .ok (nats (List.range (firsts G P.length).length)) := by rw [Kl]; exact rng_nats (by omega)
          have comp := lc_if (em := nat) (vs := [9]) (i := 9) (xs := List.range (firsts G P.length).length) (p := fun j => !at2 T (K.getD j 0) c) (g := nat)
            (c := fun en => (notR (((((getC 2 en).bind fun x => ((getC 3 en).bind fun x => (getC 9 en).bind fun y => idxD x y).bind fun y => idxD x y).bind fun x => (getC 7 en).bind fun y => idxD x y).bind Cell.val).bind asB)))
            (f := fun en => (varD 9 en)) (e := [.d (mon rd f V E), .d (.list (nats P)), .own2 (rows2 T), .d (.list (nats K)), .d (nat p), .own (s.map stepD), .own (nats t), .d (nat c), .un, .un]) (by rw [List.length_range]; omega) (fun j hj => by
              have lj := List.mem_range.mp hj
              have i1 : idxD (.d (.list (nats K))) (.d (.int (j : Int))) = .ok (.d (nat (K.getD j 0))) := ixL (getS (by omega))
              have kl := Pl _ (Kin _ (getD_mem (z := 0) (show j < K.length by omega)))
              have ra := row2_at sq kl
              have b1 : idxD (.own ((T.getD (K.getD j 0) []).map PySem.PyData.bool)) (.d (.int (c : Int))) = .ok (.d (.bool (at2 T (K.getD j 0) c))) := bit_at (by rw [sq_row sq kl]; exact Pl c cP)
              simp -implicitDefEqProofs [i1, ra, b1, -List.getD_eq_getElem?_getD, -List.map_map]) (fun x _ _ => by simp)
          rw [plc cP] at comp
          have i0 : idxD (.own [.int ((G.getD (P.idxOf c) 0 : Nat) : Int)]) (.d (.int 0)) = .ok (.d (.int ((G.getD (P.idxOf c) 0 : Nat) : Int))) := idx_own (k := 0) rfl
          refine ⟨.d (nat c), ?_, by simp; omega⟩
          try simp -implicitDefEqProofs [-List.getD_eq_getElem?_getD, -List.map_map] at comp
          simp -implicitDefEqProofs [l1_law_smallest, r1, comp, i0, l1, -List.getD_eq_getElem?_getD, -List.map_map]) [] x7 rfl
      rw [fold_snoc'] at h3
      simp only [List.nil_append] at h3
      rw [show nats [] = [] from rfl] at h3
      refine ⟨⟨.d (nat p), .own (nats ((E.getD p []).map fun c => G.getD (P.idxOf c) 0)), z7⟩, ?_, by simp; omega⟩
      generalize ((E.getD p []).map fun c => G.getD (P.idxOf c) 0) = row at *
      simp -implicitDefEqProofs [l2_law_smallest, l0, setR, mon3, s1, step_items, h3, stepD, l1, -List.getD_eq_getElem?_getD, -List.map_map]
      try rfl) [] ⟨j1, .un, .un⟩ rfl
  obtain ⟨z4, z6, z7⟩ := j2
  rw [fold_snoc'] at h2
  simp only [List.nil_append, List.map_nil] at h2
  have eE : (K.map fun p => (E.getD p []).map fun c => G.getD (P.idxOf c) 0) = redE E P G := by
    rw [hK]
    unfold redE
    rw [List.map_map]
    refine List.map_congr_left fun a ha => ?_
    show ((E.getD (P.getD a 0) []).map fun c => G.getD (P.idxOf c) 0) = gOf G ((subE E P).getD a [])
    rw [subE_get (fb a ha)]
    unfold gOf
    rw [List.map_map]
    rfl
  rw [eE] at h2
  have c3 := fun z4 z6 z7 => lc_of (em := nat) (vs := [4]) (i := 4) (xs := K) (g := fun p => vt (V.getD p .sure))
    (f := fun en => ((((getC 0 en).bind fun x => (cstD (.int 2) en).bind fun y => idxD x y).bind fun x => (getC 4 en).bind fun y => idxD x y).bind Cell.val))
    (e := [.d (mon rd f V E), .d (.list (nats P)), .own2 (rows2 T), .d (.list (nats K)), z4, .own ((redE E P G).map stepD), z6, z7, .un, .un]) (by omega) (fun p hp => by
      have := verd_at (V := V) (Pl p (Kin p hp))
      simp -implicitDefEqProofs [mon2, this, -List.getD_eq_getElem?_getD])
  have ec3 : (K.map fun p => vt (V.getD p .sure)) = (redV V P G).map vt := by
    rw [hK]
    unfold redV
    rw [List.map_map, List.map_map]; rfl
  rw [ec3] at c3
  have em : mon rd 0 (redV V P G) (redE E P G) = .tuple [.tuple rd, .int 0, .tuple ((redV V P G).map vt), .tuple ((redE E P G).map stepD)] := by unfold mon; rfl
  rw [em]
  have t4 := tup4 (.tuple rd) (.int 0) (.tuple ((redV V P G).map vt)) (.tuple ((redE E P G).map stepD))
  try simp -implicitDefEqProofs [-List.map_map, -List.getD_eq_getElem?_getD] at c3
  unfold m_law_smallest runD g_law_smallest
  simp -implicitDefEqProofs [startD, mon1, hre, setR, mon2, mon3, hap, l0, h1, h2, c3, mon0, t4, -List.map_map, -List.getD_eq_getElem?_getD]
end
end K89
namespace K89
open DL L2
open K88 (add1 seenGo num numGo num_map mem_seen idx_new)
def posOf {κ : Type} [DecidableEq κ] (L : List κ) (x : κ) : Nat := L.idxOf x
theorem pos_new {κ : Type} [DecidableEq κ] {L : List κ} {x : κ} (h : x ∉ L) : posOf (L ++ [x]) x = L.length := by
  unfold posOf
  rw [← add1_new h]
  exact idx_new h
theorem pos_lt {κ : Type} [DecidableEq κ] {L : List κ} {x : κ} (h : x ∈ L) : posOf L x < L.length := List.idxOf_lt_length_of_mem h
theorem seen_pos {κ : Type} [DecidableEq κ] {em : κ → D} {kk : κ → PySem.NestedKey} (h : Keyed em kk) {x : κ} {seen : List κ} (m : x ∈ seen) : ixDD (.dic (seenD em nat 0 seen)) (.d (em x)) = .ok (.d (nat (posOf seen x))) := seen_ix (val := nat) h m
theorem notIn_yes {κ : Type} [DecidableEq κ] {em : κ → D} {kk : κ → PySem.NestedKey} (h : Keyed em kk) {x : κ} {seen : List κ} (m : x ∈ seen) : notInDD (.d (em x)) (.dic (seenD em nat 0 seen)) = .ok (.d (.bool false)) := by
  rw [seen_notIn (val := nat) h, decide_eq_true m]; rfl
theorem notIn_no {κ : Type} [DecidableEq κ] {em : κ → D} {kk : κ → PySem.NestedKey} (h : Keyed em kk) {x : κ} {seen : List κ} (m : x ∉ seen) : notInDD (.d (em x)) (.dic (seenD em nat 0 seen)) = .ok (.d (.bool true)) := by
  rw [seen_notIn (val := nat) h, decide_eq_false m]; rfl
theorem lnotIn_yes {κ : Type} [DecidableEq κ] {em : κ → D} {d : Nat} (e : Enc em d) (hd : d ≤ 63) {x : κ} {L : List κ} (m : x ∈ L) : notInD (.d (em x)) (.own (L.map em)) = .ok (.d (.bool false)) := by
  rw [e.notInO hd, decide_eq_true m]; rfl
theorem lnotIn_no {κ : Type} [DecidableEq κ] {em : κ → D} {d : Nat} (e : Enc em d) (hd : d ≤ 63) {x : κ} {L : List κ} (m : x ∉ L) : notInD (.d (em x)) (.own (L.map em)) = .ok (.d (.bool true)) := by
  rw [e.notInO hd, decide_eq_false m]; rfl
theorem gStep_old {κ : Type} [DecidableEq κ] {L : List κ} {r : List Nat} {x : κ} (h : x ∈ L) : gStep (L, r) x = (L, r ++ [posOf L x]) := by
  unfold gStep posOf
  rw [add1_old h]
theorem gStep_new {κ : Type} [DecidableEq κ] {L : List κ} {r : List Nat} {x : κ} (h : x ∉ L) : gStep (L, r) x = (L ++ [x], r ++ [L.length]) := by
  show (add1 L x, r ++ [posOf (add1 L x) x]) = _
  rw [add1_new h, pos_new h]
theorem row_num {κ : Type} [DecidableEq κ] {L xs P t : List κ} (h : P = seenGo L xs ++ t) : numGo L xs = xs.map fun y => posOf P y := by
  unfold posOf
  rw [num_map]
  refine List.map_congr_left fun y hy => ?_
  rw [h, List.idxOf_append, if_pos (mem_seen xs L y hy)]
theorem index_at {κ : Type} [DecidableEq κ] {em : κ → D} {d : Nat} (e : Enc em d) (hd : d ≤ 63) {L : List κ} {y : κ} (hy : y ∈ L) : indexD (.own (L.map em)) (.d (em y)) = .ok (.d (.int (posOf L y : Nat))) := by
  unfold posOf
  have fi : (L.map em).findIdx (fun z => PySem.PyData.eqv z (em y)) = L.idxOf y := by
    rw [List.findIdx_map]
    unfold List.idxOf
    congr 1
    funext z
    show PySem.PyData.eqv (em z) (em y) = (z == y)
    rw [e.eqs, Bool.eq_iff_iff]
    simp
  have li := List.idxOf_lt_length_of_mem hy
  unfold indexD
  show (if _ then _ else _) = _
  rw [fi, if_pos ⟨e.list.shaped (by omega) L, e.shaped (by omega) y, by rw [List.length_map]; exact li⟩]
end K89
namespace K89
open DL L2
open K88 (add1 seenGo num numGo num_map mem_seen idx_new seen_pre)
theorem self_range {α : Type} (ys : List α) (z : α) : ys = (List.range ys.length).map fun j => ys.getD j z := by
  apply List.ext_getElem
  · simp
  · intro i h1 h2
    simp [List.getD_eq_getElem?_getD, h1]
theorem fold_range {κ : Type} [DecidableEq κ] (ys : List κ) (z : κ) (s : List κ × List Nat) : (List.range ys.length).foldl (fun s j => gStep s (ys.getD j z)) s = (seenGo s.1 ys, s.2 ++ numGo s.1 ys) := by
  have e : (List.range ys.length).foldl (fun s j => gStep s (ys.getD j z)) s = ((List.range ys.length).map fun j => ys.getD j z).foldl gStep s := by rw [List.foldl_map]
  rw [e, ← self_range]
  exact gFold ys s.1 s.2
theorem ir (j w : Nat) (r : List Nat) (h : r.length = w) (hj : j < w) : idxD (.d (stepD r)) (.d (.int (j : Int))) = .ok (.d (.int ((r.getD j 0 : Nat) : Int))) := ixT (em := nat) (getS (by omega))
/-- a breadth-first walk under way: L is known, k are done, P is what comes out -/
structure Walk {κ : Type} [DecidableEq κ] (succ : κ → List κ) (P L : List κ) (k m : Nat) : Prop where
  nd : L.Nodup
  le : k ≤ L.length
  out : bfs succ m k L = P
theorem walk_pre {κ : Type} [DecidableEq κ] {succ : κ → List κ} {P L : List κ} {k m : Nat} (h : Walk succ P L k m) : ∃ t, P = L ++ t := by
  obtain ⟨t, e⟩ := bfs_pre (succ := succ) m k L
  exact ⟨t, by rw [← h.out, e]⟩
theorem walk_get {κ : Type} [DecidableEq κ] {succ : κ → List κ} {P L : List κ} {k m : Nat} (h : Walk succ P L k m) {x : κ} (hk : L[k]? = some x) : P[k]? = some x := by
  obtain ⟨t, e⟩ := walk_pre h
  rw [e, List.getElem?_append_left (List.getElem?_eq_some_iff.mp hk).1]
  exact hk
theorem walk_next {κ : Type} [DecidableEq κ] {succ : κ → List κ} {P L : List κ} {k m : Nat} (h : Walk succ P L k (m + 1)) {x : κ} (hk : L[k]? = some x) : Walk succ P (seenGo L (succ x)) (k + 1) m ∧ numGo L (succ x) = (succ x).map fun y => posOf P y := by
  have o := h.out
  rw [bfs_step hk] at o
  have hl := (List.getElem?_eq_some_iff.mp hk).1
  refine ⟨⟨nodup_seenGo _ _ h.nd, ?_, o⟩, ?_⟩
  · obtain ⟨t, e⟩ := seen_pre (succ x) L
    rw [e, List.length_append]
    omega
  · obtain ⟨t, e⟩ := bfs_pre (succ := succ) m (k + 1) (seenGo L (succ x))
    exact row_num (t := t) (by rw [← o, e])
theorem take_get {α β : Type} {P : List α} {k : Nat} {x : α} (g : α → β) (h : P[k]? = some x) : (P.take (k + 1)).map g = (P.take k).map g ++ [g x] := by
  rw [List.take_succ, h, List.map_append]; rfl
end K89
namespace K89
open DL L2
open K88 (add1 seenGo num numGo num_map mem_seen idx_new seen_pre)
abbrev Pr := Nat × Nat
abbrev Rw := Pr × List Nat
theorem seen_snoc {κ : Type} [DecidableEq κ] : ∀ (xs L : List κ) (y : κ), seenGo L (xs ++ [y]) = add1 (seenGo L xs) y
  | [], _, _ => rfl
  | x :: xs, L, y => seen_snoc xs (add1 L x) y
/-! ### rows found breadth first -/
def vstep (path : List Nat) (R : List Rw) (j : Nat) (y : Pr) : List Rw := if y ∈ R.map (·.1) then R else R ++ [(y, path ++ [j])]
def visR (path : List Nat) (ys : List Pr) (R : List Rw) : List Rw := (List.range ys.length).foldl (fun R j => vstep path R j (ys.getD j (0, 0))) R
theorem visN (path : List Nat) (ys : List Pr) (R : List Rw) : ∀ n, n ≤ ys.length → ((List.range n).foldl (fun R j => vstep path R j (ys.getD j (0, 0))) R).map (·.1) = seenGo (R.map (·.1)) (ys.take n) ∧
    (∃ t, (List.range n).foldl (fun R j => vstep path R j (ys.getD j (0, 0))) R = R ++ t) ∧ ∀ q ∈ (List.range n).foldl (fun R j => vstep path R j (ys.getD j (0, 0))) R, q ∈ R ∨ ∃ j < n, q.2 = path ++ [j]
  | 0, _ => ⟨by simp [seenGo], ⟨[], by simp⟩, fun q hq => .inl (by simpa using hq)⟩
  | n + 1, h => by
    obtain ⟨a, ⟨t, b⟩, c⟩ := visN path ys R n (by omega)
    rw [List.range_succ, List.foldl_append]
    have tk : ys.take (n + 1) = ys.take n ++ [ys.getD n (0, 0)] := by rw [List.take_succ, getS (z := (0, 0)) (show n < ys.length by omega)]; rfl
    rw [tk, seen_snoc, ← a]
    simp only [List.foldl_cons, List.foldl_nil]
    generalize (List.range n).foldl (fun R j => vstep path R j (ys.getD j (0, 0))) R = A at *
    generalize ys.getD n (0, 0) = y at *
    show (vstep path A n y).map (·.1) = add1 (A.map (·.1)) y ∧ (∃ t, vstep path A n y = R ++ t) ∧ ∀ q ∈ vstep path A n y, q ∈ R ∨ ∃ j < n + 1, q.2 = path ++ [j]
    unfold vstep add1
    split
    · exact ⟨rfl, ⟨t, b⟩, fun q hq => (c q hq).imp id fun ⟨j, hj, e⟩ => ⟨j, by omega, e⟩⟩
    · refine ⟨by rw [List.map_append]; rfl, ⟨t ++ [(y, path ++ [n])], by rw [b, List.append_assoc]⟩, fun q hq => ?_⟩
      rcases List.mem_append.mp hq with hq | hq
      · exact (c q hq).imp id fun ⟨j, hj, e⟩ => ⟨j, by omega, e⟩
      · rw [List.mem_singleton.mp hq]
        exact .inr ⟨n, by omega, rfl⟩
theorem visR_fst (path : List Nat) (ys : List Pr) (R : List Rw) : (visR path ys R).map (·.1) = seenGo (R.map (·.1)) ys := by
  have := (visN path ys R ys.length (Nat.le_refl _)).1
  rw [List.take_of_length_le (Nat.le_refl _)] at this
  exact this
def bfsR (succ : Pr → List Pr) : Nat → Nat → List Rw → List Rw
  | 0, _, R => R
  | f + 1, k, R => match R[k]? with
    | none => R
    | some q => bfsR succ f (k + 1) (visR q.2 (succ q.1) R)
variable {succ : Pr → List Pr}
theorem bfsR_stop {R : List Rw} {k : Nat} (h : R.length ≤ k) : ∀ f, bfsR succ f k R = R
  | 0 => rfl
  | f + 1 => by unfold bfsR; rw [List.getElem?_eq_none h]
theorem bfsR_step {R : List Rw} {k : Nat} {q : Rw} (h : R[k]? = some q) (f : Nat) : bfsR succ (f + 1) k R = bfsR succ f (k + 1) (visR q.2 (succ q.1) R) := by
  show (match R[k]? with | none => R | some q => bfsR succ f (k + 1) (visR q.2 (succ q.1) R)) = _
  rw [h]
theorem bfsR_fst : ∀ (f k : Nat) (R : List Rw), (bfsR succ f k R).map (·.1) = bfs succ f k (R.map (·.1))
  | 0, _, _ => rfl
  | f + 1, k, R => by
    cases h : R[k]? with
    | none =>
      have := List.getElem?_eq_none_iff.mp h
      rw [bfsR_stop this, bfs_stop (by rw [List.length_map]; exact this)]
    | some q =>
      rw [bfsR_step h, bfsR_fst f (k + 1), visR_fst, bfs_step (x := q.1) (by rw [List.getElem?_map, h]; rfl)]
theorem bfsR_pre : ∀ (f k : Nat) (R : List Rw), ∃ t, bfsR succ f k R = R ++ t
  | 0, _, R => ⟨[], (List.append_nil _).symm⟩
  | f + 1, k, R => by
    cases h : R[k]? with
    | none => exact ⟨[], by rw [bfsR_stop (List.getElem?_eq_none_iff.mp h), List.append_nil]⟩
    | some q =>
      rw [bfsR_step h]
      obtain ⟨t, e⟩ := bfsR_pre f (k + 1) (visR q.2 (succ q.1) R)
      obtain ⟨t', e'⟩ := (visN q.2 (succ q.1) R _ (Nat.le_refl _)).2.1
      have e' : visR q.2 (succ q.1) R = R ++ t' := e'
      exact ⟨t' ++ t, by rw [e, e', List.append_assoc]⟩
theorem bfsR_low {w : Nat} (hw : ∀ p, (succ p).length = w) : ∀ (f k : Nat) (R : List Rw), (∀ q ∈ R, ∀ j ∈ q.2, j < w) → ∀ q ∈ bfsR succ f k R, ∀ j ∈ q.2, j < w
  | 0, _, _, h => h
  | f + 1, k, R, h => by
    cases e : R[k]? with
    | none => rw [bfsR_stop (List.getElem?_eq_none_iff.mp e)]; exact h
    | some q =>
      rw [bfsR_step e]
      refine bfsR_low hw f (k + 1) _ fun r hr j hj => ?_
      rcases (visN q.2 (succ q.1) R _ (Nat.le_refl _)).2.2 r hr with hr | ⟨i, hi, e2⟩
      · exact h r hr j hj
      · rw [e2] at hj
        rcases List.mem_append.mp hj with hj | hj
        · exact h q (List.mem_of_getElem? e) j hj
        · rw [List.mem_singleton.mp hj, ← hw q.1]; exact hi
theorem bfsR_lens : ∀ (f k : Nat) (R : List Rw), (∀ q ∈ R, q.2.length ≤ k) → ∀ q ∈ bfsR succ f k R, q.2.length ≤ k + f
  | 0, _, _, h => h
  | f + 1, k, R, h => by
    cases e : R[k]? with
    | none =>
      rw [bfsR_stop (List.getElem?_eq_none_iff.mp e)]
      exact fun q hq => Nat.le_trans (h q hq) (by omega)
    | some q =>
      rw [bfsR_step e]
      have := bfsR_lens f (k + 1) (visR q.2 (succ q.1) R) (fun r hr => by
        rcases (visN q.2 (succ q.1) R _ (Nat.le_refl _)).2.2 r hr with hr | ⟨i, hi, e2⟩
        · exact Nat.le_succ_of_le (h r hr)
        · rw [e2, List.length_append]
          have := h q (List.mem_of_getElem? e)
          simp; omega)
      exact fun r hr => Nat.le_trans (this r hr) (by omega)
/-! ### two monitors -/
section
variable {rd : List D} {f f' w : Nat} {V V' : List Vd} {E E' : List (List Nat)}
def succP (w : Nat) (E E' : List (List Nat)) (p : Pr) : List Pr := (List.range w).map fun j => ((E.getD p.1 []).getD j 0, (E'.getD p.2 []).getD j 0)
theorem succP_len (p : Pr) : (succP w E E' p).length = w := by simp [succP]
theorem succP_at {p : Pr} {j : Nat} (hj : j < w) : (succP w E E' p).getD j (0, 0) = ((E.getD p.1 []).getD j 0, (E'.getD p.2 []).getD j 0) := by
  unfold succP
  rw [List.getD_eq_getElem?_getD, List.getElem?_map, List.getElem?_range hj]; rfl
/-- the pairs are pairs of places -/
def In (n n' : Nat) (p : Pr) : Prop := p.1 < n ∧ p.2 < n'
theorem succP_in (hm : Sm f V E w) (hm' : Sm f' V' E' w) {p : Pr} (hp : In E.length E'.length p) : ∀ y ∈ succP w E E' p, In E.length E'.length y := fun y hy => by
  obtain ⟨j, hj, rfl⟩ := List.mem_map.mp hy
  have lj := List.mem_range.mp hj
  exact ⟨(hm.ok.row _ hp.1).2 _ (getD_mem (by rw [hm.wide _ hp.1]; exact lj)), (hm'.ok.row _ hp.2).2 _ (getD_mem (by rw [hm'.wide _ hp.2]; exact lj))⟩
def univP (n n' : Nat) : List Pr := (List.range n).flatMap fun a => (List.range n').map fun b => (a, b)
theorem univP_mem {n n' : Nat} {p : Pr} : p ∈ univP n n' ↔ In n n' p := by
  obtain ⟨a, b⟩ := p
  simp [univP, In]
theorem univP_len (n n' : Nat) : (univP n n').length = n * n' := by
  unfold univP
  rw [List.length_flatMap]
  have go : ∀ m : Nat, ((List.range m).map fun _ => n').sum = m * n' := fun m => by
    induction m with
    | zero => simp
    | succ m ih => rw [List.range_succ, List.map_append, List.sum_append, ih, Nat.add_mul]; simp
  have e : ((List.range n).map fun a => ((List.range n').map fun b => (a, b)).length) = (List.range n).map fun _ => n' := List.map_congr_left fun a _ => by simp
  rw [e]
  exact go n
theorem bfsP_in (hm : Sm f V E w) (hm' : Sm f' V' E' w) (fu k : Nat) (L : List Pr) (hL : ∀ p ∈ L, In E.length E'.length p) : ∀ p ∈ bfs (succP w E E') fu k L, In E.length E'.length p := fun p hp =>
  univP_mem.mp (bfs_in (U := univP E.length E'.length) (fun x hx y hy => univP_mem.mpr (succP_in hm hm' (univP_mem.mp hx) y hy)) fu k L (fun x hx => univP_mem.mpr (hL x hx)) p hp)
theorem bfsP_len (hm : Sm f V E w) (hm' : Sm f' V' E' w) (fu k : Nat) (L : List Pr) (nd : L.Nodup) (hL : ∀ p ∈ L, In E.length E'.length p) : (bfs (succP w E E') fu k L).length ≤ E.length * E'.length := by
  have := nodup_len _ (univP E.length E'.length) (bfs_nodup (succ := succP w E E') fu k L nd) (fun p hp => univP_mem.mpr (bfsP_in hm hm' fu k L hL p hp))
  rw [univP_len] at this
  exact this
def prs (w f f' : Nat) (E E' : List (List Nat)) : List Pr := bfs (succP w E E') (E.length * E'.length) 0 [(f, f')]
def prE (w f f' : Nat) (E E' : List (List Nat)) : List (List Nat) := (prs w f f' E E').map fun p => (succP w E E' p).map fun y => posOf (prs w f f' E E') y
theorem one_in (hm : Sm f V E w) (hm' : Sm f' V' E' w) : ∀ p ∈ [(f, f')], In E.length E'.length p := fun p hp => by rw [List.mem_singleton.mp hp]; exact ⟨hm.ok.fst, hm'.ok.fst⟩
theorem nn_le (h : E.length ≤ 20) (h' : E'.length ≤ 20) : E.length * E'.length ≤ 400 := Nat.le_trans (Nat.mul_le_mul h h') (by decide)
theorem psteps_ok (hm : Sm f V E w) (hm' : Sm f' V' E' w) (hrd : rd.length = w) {p : Pr} (hp : In E.length E'.length p) (L : List Pr) (hL : L.length ≤ 10000) (c4 c6 c9 : Cell) :
    ∃ y6 y9, forD (turnD (.nm 6) l0_pair_nodes) (nats (List.range w)) [.d (mon rd f V E), .d (mon rd f' V' E'), .own (L.map ppD), .dic (seenD ppD nat 0 L), c4, .own [], c6, .d (nat p.1), .d (nat p.2), c9] =
      .nx [.d (mon rd f V E), .d (mon rd f' V' E'), .own ((seenGo L (succP w E E' p)).map ppD), .dic (seenD ppD nat 0 (seenGo L (succP w E E' p))), c4, .own (nats (numGo L (succP w E E' p))), y6, .d (nat p.1), .d (nat p.2), y9] := by
  have w1 := hm.w1
  have s1 := step_at (E := E) hp.1
  have s2 := step_at (E := E') hp.2
  have loop := forD_foldI (em := nat) (g := turnD (.nm 6) l0_pair_nodes) (J := Cell × Cell) (σ := List Pr × List Nat) (step := fun s j => gStep s ((succP w E E' p).getD j (0, 0)))
    (E := fun s j => [.d (mon rd f V E), .d (mon rd f' V' E'), .own (s.1.map ppD), .dic (seenD ppD nat 0 s.1), c4, .own (nats s.2), j.1, .d (nat p.1), .d (nat p.2), j.2]) (fun i s => s.1.length ≤ L.length + i ∧ s.2.length = i) (List.range w) 0 (by
      rintro i ⟨A, row⟩ j ⟨x6, x9⟩ hj ⟨h1, h2⟩
      dsimp only at h1 h2
      obtain ⟨hi, hj⟩ := List.getElem?_eq_some_iff.mp hj
      rw [List.getElem_range] at hj
      subst hj
      rw [List.length_range] at hi
      have iy := ir i w (E.getD p.1 []) (hm.wide _ hp.1) hi
      have iy' := ir i w (E'.getD p.2 []) (hm'.wide _ hp.2) hi
      rw [succP_at hi]
      generalize (E.getD p.1 []).getD i 0 = c at *
      generalize (E'.getD p.2 []).getD i 0 = c' at *
      have tp : tupR (.ok [PySem.PyData.int (c : Int), .int (c' : Int)]) = .ok (.d (ppD (c, c'))) := tup2 _ _
      have l1 : A.length < 16777216 := by omega
      have l2 : row.length < 16777216 := by omega
      refine ⟨⟨.d (nat i), .d (ppD (c, c'))⟩, ?_, Nat.le_trans (add1_len _ _) (by show A.length + 1 ≤ _; omega), by show (row ++ [_]).length = _; simp; omega⟩
      by_cases m : (c, c') ∈ A
      · have a2 := seen_pos pp_key m
        have a1 := notIn_yes pp_key m
        rw [gStep_old m]
        simp -implicitDefEqProofs [l0_pair_nodes, mon3, s1, s2, iy, iy', tp, setR, a1, a2, l2, -List.getD_eq_getElem?_getD]
      · have a2 := seen_pos pp_key (x := (c, c')) (seen := A ++ [(c, c')]) (by simp)
        have a4 := seen_put (val := nat) pp_key m (by omega)
        have a1 := notIn_no pp_key m
        rw [gStep_new m]
        rw [pos_new m] at a2
        simp -implicitDefEqProofs [l0_pair_nodes, mon3, s1, s2, iy, iy', tp, setR, a1, a2, a4, dicAt, l1, l2, -List.getD_eq_getElem?_getD]) (L, []) ⟨c6, c9⟩ ⟨by show L.length ≤ _; omega, rfl⟩
  obtain ⟨⟨y6, y9⟩, h, _⟩ := loop
  have fr := fold_range (succP w E E' p) (0, 0) (L, [])
  rw [succP_len] at fr
  rw [fr] at h
  simp only [List.nil_append] at h
  exact ⟨y6, y9, h⟩
theorem pair_ok (hm : Sm f V E w) (hm' : Sm f' V' E' w) (nn : E.length * E'.length ≤ 400) (hrd : rd.length = w) (hsh : PySem.SeqAt.shaped (.tuple rd) = true) :
    m_pair_nodes [mon rd f V E, mon rd f' V' E'] = .ok (.d (.tuple [.list ((prs w f f' E E').map ppD), .list ((prE w f f' E E').map stepD)])) := by
  have w1 := hm.w1
  have l0 : lstR (.ok []) = .ok (.own []) := lstR_ok (by decide)
  have ne : neD (.d (.tuple rd)) (.d (.tuple rd)) = .ok (.d (.bool false)) := by
    rw [neD_ok hsh hsh, PySem.SeqAt.eqv_refl _ (PySem.SeqAt.canLay_of_shaped hsh)]; rfl
  have chk : m_check_lists [mon rd f V E, mon rd f' V' E'] = .ok (.d .none) := by
    unfold m_check_lists runD g_check_lists
    simp -implicitDefEqProofs [startD, mon0, ne]
  have lr : lenD (.d (.tuple rd)) = .ok (.d (.int (w : Int))) := by rw [← hrd]; rfl
  have r1 : rng1D (.d (.int (w : Int))) = .ok (nats (List.range w)) := rng_nats (by omega)
  have t2 : tupR (.ok [PySem.PyData.int (f : Int), .int (f' : Int)]) = .ok (.d (ppD (f, f'))) := tup2 _ _
  have l1 : lstR (.ok [ppD (f, f')]) = .ok (.own [ppD (f, f')]) := lstR_ok (by simp)
  have i0 : idxD (.own [ppD (f, f')]) (.d (.int 0)) = .ok (.d (ppD (f, f'))) := idx_own (k := 0) rfl
  have d1 : d1D (.d (ppD (f, f'))) (.d (.int 0)) = .ok (.dic (seenD ppD nat 0 [(f, f')])) := seen_one (val := nat) pp_key (f, f')
  have wl := whileD_ind (c := l1_pair_nodes) (g := l2_pair_nodes)
    (P := fun m e => ∃ k L y5 y6 y7 y8 y9, k + m = E.length * E'.length ∧ Walk (succP w E E') (prs w f f' E E') L k m ∧ (∀ p ∈ L, In E.length E'.length p) ∧
      e = [.d (mon rd f V E), .d (mon rd f' V' E'), .own (L.map ppD), .dic (seenD ppD nat 0 L), .own ((((prs w f f' E E').take k).map fun p => (succP w E E' p).map fun y => posOf (prs w f f' E E') y).map stepD), y5, y6, y7, y8, y9])
    (Q := fun e => ∃ y3 y5 y6 y7 y8 y9, e = [.d (mon rd f V E), .d (mon rd f' V' E'), .own ((prs w f f' E E').map ppD), y3, .own ((prE w f f' E E').map stepD), y5, y6, y7, y8, y9]) (by
      rintro m e ⟨k, L, y5, y6, y7, y8, y9, hk, hW, hL, rfl⟩
      have hlen : L.length ≤ E.length * E'.length := bfsP_len hm hm' 0 k L hW.nd hL
      obtain ⟨t, et⟩ := walk_pre hW
      have kP : k ≤ (prs w f f' E E').length := by rw [et, List.length_append]; have := hW.le; omega
      have tl := nat_lt (i := k) (n := L.length)
      have lB : lenD (.own ((((prs w f f' E E').take k).map fun p => (succP w E E' p).map fun y => posOf (prs w f f' E E') y).map stepD)) = .ok (.d (.int (k : Int))) := by
        show R.ok (Cell.d (.int (((((prs w f f' E E').take k).map fun p => (succP w E E' p).map fun y => posOf (prs w f f' E E') y).map stepD).length : Int))) = _
        rw [List.length_map, List.length_map, List.length_take, Nat.min_eq_left kP]
      by_cases q : k < L.length
      · rw [decide_eq_true q] at tl
        have hx := getS (l := L) (z := (0, 0)) q
        have hxl := hL _ (List.mem_of_getElem? hx)
        obtain ⟨m, rfl⟩ : ∃ q, m = q + 1 := ⟨m - 1, by omega⟩
        obtain ⟨hW2, hrow⟩ := walk_next hW hx
        have hg := walk_get hW hx
        have i1 : idxD (.own (L.map ppD)) (.d (.int (k : Int))) = .ok (.d (ppD (L.getD k (0, 0)))) := ixO hx
        have hin : ∀ y ∈ seenGo L (succP w E E' (L.getD k (0, 0))), In E.length E'.length y := fun p hp => by
          rcases (mem_seenGo _ _ _).mp hp with hp | hp
          · exact hL p hp
          · exact succP_in hm hm' hxl p hp
        obtain ⟨z6, z9, hs⟩ := psteps_ok (rd := rd) hm hm' hrd hxl L (by omega) (.own ((((prs w f f' E E').take k).map fun p => (succP w E E' p).map fun y => posOf (prs w f f' E E') y).map stepD)) y6 y9
        have tg := take_get (fun p => (succP w E E' p).map fun y => posOf (prs w f f' E E') y) hg
        have lT : (((prs w f f' E E').take k).map fun p => (succP w E E' p).map fun y => posOf (prs w f f' E E') y).length < 16777216 := by rw [List.length_map, List.length_take]; omega
        rw [hrow] at hs
        generalize L.getD k (0, 0) = p at *
        have up : ∀ c7 c8 cE, unpR [7, 8] [.d (mon rd f V E), .d (mon rd f' V' E'), .own (L.map ppD), .dic (seenD ppD nat 0 L), cE, y5, y6, c7, c8, y9] (.d (ppD p)) = .nx [.d (mon rd f V E), .d (mon rd f' V' E'), .own (L.map ppD), .dic (seenD ppD nat 0 L), cE, y5, y6, .d (nat p.1), .d (nat p.2), y9] := fun _ _ _ => rfl
        refine .inr ⟨by simp -implicitDefEqProofs [l1_pair_nodes, lB, tl, -List.map_map, -List.map_take], [.d (mon rd f V E), .d (mon rd f' V' E'), .own ((seenGo L (succP w E E' p)).map ppD), .dic (seenD ppD nat 0 (seenGo L (succP w E E' p))), .own ((((prs w f f' E E').take (k + 1)).map fun p => (succP w E E' p).map fun y => posOf (prs w f f' E E') y).map stepD), .own (nats ((succP w E E' p).map fun y => posOf (prs w f f' E E') y)), z6, .d (nat p.1), .d (nat p.2), z9], ?_, m, by omega, k + 1, _, _, z6, _, _, z9, by omega, hW2, hin, rfl⟩
        rw [tg]
        generalize ((prs w f f' E E').take k).map (fun p => (succP w E E' p).map fun y => posOf (prs w f f' E E') y) = B at *
        generalize (succP w E E' p).map (fun y => posOf (prs w f f' E E') y) = row at *
        generalize seenGo L (succP w E E' p) = L2 at *
        simp -implicitDefEqProofs [l2_pair_nodes, lB, i1, up, l0, setR, mon0, lr, r1, hs, lT, stepD, -List.getD_eq_getElem?_getD]
        try rfl
      · rw [decide_eq_false q] at tl
        have o := hW.out
        rw [bfs_stop (by omega)] at o
        refine .inl ⟨by simp -implicitDefEqProofs [l1_pair_nodes, lB, tl, -List.map_map, -List.map_take], .dic (seenD ppD nat 0 L), y5, y6, y7, y8, y9, ?_⟩
        have tk : (prs w f f' E E').take k = prs w f f' E E' := List.take_of_length_le (by rw [← o]; omega)
        rw [tk, o]
        rfl) (E.length * E'.length) 1000000 [.d (mon rd f V E), .d (mon rd f' V' E'), .own ([(f, f')].map ppD), .dic (seenD ppD nat 0 [(f, f')]), .own [], .un, .un, .un, .un, .un] ⟨0, [(f, f')], _, _, _, _, _, by omega, ⟨by simp, Nat.zero_le _, rfl⟩, one_in hm hm', rfl⟩ (by omega)
  obtain ⟨e', wl, y3, y5, y6, y7, y8, y9, rfl⟩ := wl
  unfold m_pair_nodes runD g_pair_nodes
  simp -implicitDefEqProofs only [List.map_cons, List.map_nil] at wl
  simp -implicitDefEqProofs [startD, chk, mon1, t2, l1, setR, i0, d1, l0, wl, tup2, -List.map_map]
end
end K89
namespace K89
open DL L2
open K88 (add1 seenGo num numGo num_map mem_seen idx_new seen_pre)
section
variable {rd : List D} {f f' w : Nat} {V V' : List Vd} {E E' : List (List Nat)}
def rws (w f f' : Nat) (E E' : List (List Nat)) : List Rw := bfsR (succP w E E') (E.length * E'.length) 0 [((f, f'), [])]
theorem pos_app {κ : Type} [DecidableEq κ] {L t : List κ} {y : κ} (m : y ∈ L) : posOf (L ++ t) y = posOf L y := by
  unfold posOf
  rw [List.idxOf_append, if_pos m]
theorem rws_fst : (rws w f f' E E').map (·.1) = prs w f f' E E' := bfsR_fst _ _ _
def row3 (q : Rw) : D := .tuple [nat q.1.1, nat q.1.2, .tuple (nats q.2)]
theorem bturn_ok (hm : Sm f V E w) (hm' : Sm f' V' E' w) {p : Pr} (hp : In E.length E'.length p) {k : Nat} {Q : List Rw} {path : List Nat} (hk : Q[k]? = some (p, path)) (hpath : path.length ≤ 1000) (hQ : Q.length ≤ 10000) (c5 c6 : Cell) :
    ∃ y5 y6, forD (turnD (.nm 5) l0_law_both_nodes) (nats (List.range w)) [.d (mon rd f V E), .d (mon rd f' V' E'), .own (Q.map row3), .own ((Q.map (·.1)).map ppD), .d (nat k), c5, c6] =
      .nx [.d (mon rd f V E), .d (mon rd f' V' E'), .own ((visR path (succP w E E' p) Q).map row3), .own (((visR path (succP w E E' p) Q).map (·.1)).map ppD), .d (nat k), y5, y6] := by
  have w1 := hm.w1
  have s1 := step_at (E := E) hp.1
  have s2 := step_at (E := E') hp.2
  have swl := succP_len (w := w) (E := E) (E' := E') p
  obtain ⟨e', h, hP⟩ := forD_ind (g := turnD (.nm 5) l0_law_both_nodes) (xs := nats (List.range w)) (e := [.d (mon rd f V E), .d (mon rd f' V' E'), .own (Q.map row3), .own ((Q.map (·.1)).map ppD), .d (nat k), c5, c6])
    (P := fun i e => ∃ y5 y6 A, A = (List.range i).foldl (fun Q j => vstep path Q j ((succP w E E' p).getD j (0, 0))) Q ∧ A.length ≤ Q.length + i ∧ e = [.d (mon rd f V E), .d (mon rd f' V' E'), .own (A.map row3), .own ((A.map (·.1)).map ppD), .d (nat k), y5, y6]) ⟨c5, c6, Q, rfl, by omega, rfl⟩ (fun i x e hx hP => by
      obtain ⟨y5, y6, A, hA, lA, rfl⟩ := hP
      rw [List.getElem?_map, Option.map_eq_some_iff] at hx
      obtain ⟨j, hj, rfl⟩ := hx
      obtain ⟨hi, hj⟩ := List.getElem?_eq_some_iff.mp hj
      rw [List.getElem_range] at hj
      subst hj
      rw [List.length_range] at hi
      have eA : (List.range (i + 1)).foldl (fun Q j => vstep path Q j ((succP w E E' p).getD j (0, 0))) Q = vstep path A i ((succP w E E' p).getD i (0, 0)) := by
        rw [List.range_succ, List.foldl_append, ← hA]; rfl
      have hRA : A[k]? = some (p, path) := by
        obtain ⟨t2, e2⟩ := (visN path (succP w E E' p) Q i (by omega)).2.1
        rw [hA, e2, List.getElem?_append_left (List.getElem?_eq_some_iff.mp hk).1]
        exact hk
      have iy := ir i w (E.getD p.1 []) (hm.wide _ hp.1) hi
      have iy' := ir i w (E'.getD p.2 []) (hm'.wide _ hp.2) hi
      have rk : idxD (.own (A.map row3)) (.d (.int (k : Int))) = .ok (.d (row3 (p, path))) := ixO hRA
      have r0 : idxD (.d (row3 (p, path))) (.d (.int 0)) = .ok (.d (nat p.1)) := idx_tuple (k := 0) rfl
      have r1 : idxD (.d (row3 (p, path))) (.d (.int 1)) = .ok (.d (nat p.2)) := idx_tuple (k := 1) rfl
      have r2 : idxD (.d (row3 (p, path))) (.d (.int 2)) = .ok (.d (.tuple (nats path))) := idx_tuple (k := 2) rfl
      rw [succP_at hi] at eA
      generalize (E.getD p.1 []).getD i 0 = c at *
      generalize (E'.getD p.2 []).getD i 0 = c' at *
      have tp : tupR (.ok [PySem.PyData.int (c : Int), .int (c' : Int)]) = .ok (.d (ppD (c, c'))) := tup2 _ _
      by_cases m : (c, c') ∈ A.map (·.1)
      · have a1 := lnotIn_yes ppE (by decide) m
        refine ⟨_, ?_, .d (nat i), .d (ppD (c, c')), A, by rw [eA]; exact (if_pos m).symm, by omega, rfl⟩
        generalize (A.map (·.1)).map ppD = Z at *
        generalize A.map row3 = Z2 at *
        simp -implicitDefEqProofs [l0_law_both_nodes, mon3, rk, r0, r1, s1, s2, iy, iy', tp, setR, a1, -List.getD_eq_getElem?_getD, -List.map_map]
      · have a1 := lnotIn_no ppE (by decide) m
        have ev : vstep path A i (c, c') = A ++ [((c, c'), path ++ [i])] := if_neg m
        have t1 : tupR (.ok [PySem.PyData.int (i : Int)]) = .ok (.d (.tuple [nat i])) := tupR_ok (by simp)
        have ad : addD (.d (.tuple (nats path))) (.d (.tuple [nat i])) = .ok (.d (.tuple (nats path ++ [nat i]))) := addD_tup (by rw [List.length_map]; simp; omega)
        have t1' : tupR (.ok [PySem.PyData.tuple (nats path ++ [nat i])]) = .ok (.d (.tuple [.tuple (nats path ++ [nat i])])) := tupR_ok (by simp)
        have ad2 : addD (.d (ppD (c, c'))) (.d (.tuple [.tuple (nats path ++ [nat i])])) = .ok (.d (row3 ((c, c'), path ++ [i]))) := by
          unfold ppD row3
          rw [addD_tup (by simp)]
          unfold nats
          rw [List.map_append]; rfl
        have l1 : A.length < 16777216 := by omega
        have l2 : (A.map row3).length < 16777216 := by rw [List.length_map]; exact l1
        have l3 : ((A.map (·.1)).map ppD).length < 16777216 := by rw [List.length_map, List.length_map]; exact l1
        refine ⟨[.d (mon rd f V E), .d (mon rd f' V' E'), .own (A.map row3 ++ [row3 ((c, c'), path ++ [i])]), .own ((A.map (·.1)).map ppD ++ [ppD (c, c')]), .d (nat k), .d (nat i), .d (ppD (c, c'))], ?_, .d (nat i), .d (ppD (c, c')), A ++ [((c, c'), path ++ [i])], by rw [eA, ev], by simp; omega, by simp only [List.map_append, List.map_cons, List.map_nil]⟩
        generalize (A.map (·.1)).map ppD = Z at *
        generalize A.map row3 = Z2 at *
        generalize row3 ((c, c'), path ++ [i]) = Z3 at *
        simp -implicitDefEqProofs [l0_law_both_nodes, mon3, rk, r0, r1, r2, s1, s2, iy, iy', tp, setR, a1, t1, ad, t1', ad2, l2, l3, -List.getD_eq_getElem?_getD, -List.map_map])
  obtain ⟨y5, y6, A, hA, _, rfl⟩ := hP
  rw [List.length_map, List.length_range] at hA
  have hA : A = visR path (succP w E E' p) Q := by unfold visR; rw [swl]; exact hA
  rw [← hA]
  exact ⟨y5, y6, h⟩
theorem both_ok (hm : Sm f V E w) (hm' : Sm f' V' E' w) (nn : E.length * E'.length ≤ 400) (hrd : rd.length = w) : m_law_both_nodes [mon rd f V E, mon rd f' V' E'] = .ok (.own ((rws w f f' E E').map row3)) := by
  have w1 := hm.w1
  have t2 : tupR (.ok [PySem.PyData.int (f : Int), .int (f' : Int)]) = .ok (.d (ppD (f, f'))) := tup2 _ _
  have t0 : tupR (.ok []) = .ok (.d (.tuple [])) := tupR_ok (by simp)
  have t3 : tupR (.ok [PySem.PyData.int (f : Int), .int (f' : Int), .tuple []]) = .ok (.d (row3 ((f, f'), []))) := tup3 _ _ _
  have l1 : ∀ x : D, lstR (.ok [x]) = .ok (.own [x]) := fun x => lstR_ok (by simp)
  have lv : lenD (.d (.tuple (V.map vt))) = .ok (.d (.int (E.length : Int))) := by
    show R.ok (Cell.d (.int ((V.map vt).length : Int))) = _
    rw [List.length_map, hm.ok.len]
  have lv' : lenD (.d (.tuple (V'.map vt))) = .ok (.d (.int (E'.length : Int))) := by
    show R.ok (Cell.d (.int ((V'.map vt).length : Int))) = _
    rw [List.length_map, hm'.ok.len]
  have mu : mulD (.d (.int (E.length : Int))) (.d (.int (E'.length : Int))) = .ok (.d (.int ((E.length * E'.length : Nat) : Int))) := by
    have q1 := hm.n4
    have q2 := hm'.n4
    rw [mulD_int (.inl ⟨by omega, by omega⟩), Int.natCast_mul]
  have r1 : rng1D (.d (.int ((E.length * E'.length : Nat) : Int))) = .ok (nats (List.range (E.length * E'.length))) := rng_nats (by omega)
  have lr : lenD (.d (.tuple rd)) = .ok (.d (.int (w : Int))) := by rw [← hrd]; rfl
  have rw1 : rng1D (.d (.int (w : Int))) = .ok (nats (List.range w)) := rng_nats (by omega)
  obtain ⟨e', h, hP⟩ := forD_ind (g := turnD (.nm 4) l1_law_both_nodes) (xs := nats (List.range (E.length * E'.length))) (e := [.d (mon rd f V E), .d (mon rd f' V' E'), .own [row3 ((f, f'), [])], .own [ppD (f, f')], .un, .un, .un])
    (P := fun i e => ∃ Q y4 y5 y6, bfsR (succP w E E') (E.length * E'.length - i) i Q = rws w f f' E E' ∧ (Q.map (·.1)).Nodup ∧ (∀ q ∈ Q, In E.length E'.length q.1) ∧ (∀ q ∈ Q, q.2.length ≤ i) ∧ e = [.d (mon rd f V E), .d (mon rd f' V' E'), .own (Q.map row3), .own ((Q.map (·.1)).map ppD), y4, y5, y6])
    ⟨[((f, f'), [])], _, _, _, rfl, by simp, fun q hq => by rw [List.mem_singleton.mp hq]; exact ⟨hm.ok.fst, hm'.ok.fst⟩, by simp, rfl⟩ (fun i x e hx hP => by
      obtain ⟨Q, y4, y5, y6, hb, nd, hin, hlen, rfl⟩ := hP
      rw [List.getElem?_map, Option.map_eq_some_iff] at hx
      obtain ⟨j, hj, rfl⟩ := hx
      obtain ⟨hi, hj⟩ := List.getElem?_eq_some_iff.mp hj
      rw [List.getElem_range] at hj
      subst hj
      rw [List.length_range] at hi
      have Ql : (bfs (succP w E E') 0 0 (Q.map (·.1))).length ≤ E.length * E'.length := bfsP_len hm hm' 0 0 (Q.map (·.1)) nd (fun p hp => by obtain ⟨q, hq, e⟩ := List.mem_map.mp hp; rw [← e]; exact hin q hq)
      have Ql : (Q.map (·.1)).length ≤ E.length * E'.length := Ql
      rw [List.length_map] at Ql
      have tl := nat_lt (i := i) (n := Q.length)
      have lq : lenD (.own (Q.map row3)) = .ok (.d (.int (Q.length : Int))) := by
        show R.ok (Cell.d (.int ((Q.map row3).length : Int))) = _
        rw [List.length_map]
      by_cases q : i < Q.length
      · rw [decide_eq_true q] at tl
        have hQi : Q[i]? = some Q[i] := List.getElem?_eq_getElem q
        obtain ⟨⟨p, path⟩, hq⟩ : ∃ q, q = Q[i] := ⟨_, rfl⟩
        rw [← hq] at hQi
        obtain ⟨m, hm2⟩ : ∃ q, E.length * E'.length - i = q + 1 := ⟨E.length * E'.length - i - 1, by omega⟩
        rw [hm2, bfsR_step hQi] at hb
        have pin := hin _ (List.mem_of_getElem? hQi)
        have plen := hlen _ (List.mem_of_getElem? hQi)
        dsimp only at hb pin plen
        obtain ⟨z5, z6, ht⟩ := bturn_ok (rd := rd) hm hm' pin hQi (by omega) (by omega) y5 y6
        refine ⟨[.d (mon rd f V E), .d (mon rd f' V' E'), .own ((visR path (succP w E E' p) Q).map row3), .own (((visR path (succP w E E' p) Q).map (·.1)).map ppD), .d (nat i), z5, z6], ?_, visR path (succP w E E' p) Q, _, z5, z6, by rw [show E.length * E'.length - (i + 1) = m by omega]; exact hb, by rw [visR_fst]; exact nodup_seenGo _ _ nd, fun r hr => ?_, fun r hr => ?_, rfl⟩
        · generalize ((visR path (succP w E E' p) Q).map (·.1)).map ppD = Z at *
          generalize (visR path (succP w E E' p) Q).map row3 = Z2 at *
          generalize (Q.map (·.1)).map ppD = Z3 at *
          generalize Q.map row3 = Z4 at *
          simp -implicitDefEqProofs [l1_law_both_nodes, lq, tl, mon0, lr, rw1, ht, -List.map_map]
        · have : r.1 ∈ (visR path (succP w E E' p) Q).map (·.1) := List.mem_map.mpr ⟨r, hr, rfl⟩
          rw [visR_fst] at this
          rcases (mem_seenGo _ _ _).mp this with t | t
          · obtain ⟨r', hr', e⟩ := List.mem_map.mp t
            rw [← e]
            exact hin r' hr'
          · exact succP_in hm hm' pin _ t
        · rcases (visN path (succP w E E' p) Q _ (Nat.le_refl _)).2.2 r hr with hr | ⟨j, _, e2⟩
          · exact Nat.le_succ_of_le (hlen r hr)
          · rw [e2, List.length_append]; simp; omega
      · rw [decide_eq_false q] at tl
        have o := hb
        rw [bfsR_stop (by omega)] at o
        refine ⟨[.d (mon rd f V E), .d (mon rd f' V' E'), .own (Q.map row3), .own ((Q.map (·.1)).map ppD), .d (nat i), y5, y6], ?_, Q, _, y5, y6, by rw [bfsR_stop (by omega)]; exact o, nd, hin, fun r hr => Nat.le_succ_of_le (hlen r hr), rfl⟩
        generalize (Q.map (·.1)).map ppD = Z3 at *
        generalize Q.map row3 = Z4 at *
        simp -implicitDefEqProofs [l1_law_both_nodes, lq, tl, -List.map_map])
  obtain ⟨Q, y4, y5, y6, hb, _, _, _, rfl⟩ := hP
  rw [List.length_map, List.length_range, Nat.sub_self] at hb
  have hb : Q = rws w f f' E E' := hb
  subst hb
  unfold m_law_both_nodes runD g_law_both_nodes
  simp -implicitDefEqProofs [startD, mon1, t2, t0, t3, l1, setR, mon2, lv, lv', -Int.natCast_mul]
  rw [mu]
  simp -implicitDefEqProofs [r1, h, -Int.natCast_mul, -List.map_map]
end
end K89
namespace K89
open DL L2
/-! ### the script's cells, the draws -/
def cell (ns : List Int) (k : Nat) : Int := ns.getD k 0
theorem cell_ok (ns : List Int) (k : Nat) : m_law_cell [.list (ns.map PySem.PyData.int), .int (k : Int)] = .ok (.d (.int (cell ns k))) := by
  unfold m_law_cell runD g_law_cell
  simp [startD, intB_int]
  by_cases h : k < ns.length
  · have e : (ns.map PySem.PyData.int)[k]? = some (.int (cell ns k)) := by
      rw [List.getElem?_map, List.getElem?_eq_getElem h]
      simp [cell, h]
    rw [if_pos h, idx_list e]
    rfl
  · rw [if_neg h]
    simp [cell, h]
/-- drawn numbers: one below each size -/
def Below (ds szs : List Int) : Prop := ds.length = szs.length ∧ ∀ (m : Nat) (v : Int), ds[m]? = some v → ∃ s, szs[m]? = some s ∧ 0 ≤ v ∧ v < s
theorem below_more {ds szs : List Int} {s v : Int} (hl : ∀ (m : Nat) (v : Int), ds[m]? = some v → ∃ s, szs[m]? = some s ∧ 0 ≤ v ∧ v < s) (hs : szs[ds.length]? = some s) (h0 : 0 ≤ v) (h1 : v < s) : ∀ (m : Nat) (u : Int), (ds ++ [v])[m]? = some u → ∃ s, szs[m]? = some s ∧ 0 ≤ u ∧ u < s := fun m u h => by
  by_cases hm : m < ds.length
  · rw [List.getElem?_append_left hm] at h
    exact hl m u h
  · rw [List.getElem?_append_right (by omega)] at h
    by_cases he : m = ds.length
    · subst he
      rw [Nat.sub_self] at h
      cases h
      exact ⟨s, hs, h0, h1⟩
    · rw [show m - ds.length = (m - ds.length - 1) + 1 by omega] at h
      simp at h
theorem get_map_int {szs : List Int} {i : Nat} {x : D} (h : (szs.map PySem.PyData.int)[i]? = some x) : ∃ s, szs[i]? = some s ∧ x = .int s := by
  rw [List.getElem?_map, Option.map_eq_some_iff] at h
  obtain ⟨s, h1, h2⟩ := h
  exact ⟨s, h1, h2.symm⟩
theorem run1 (ns : List Int) (k : Nat) (szs : List Int) (hk : k ≤ 1000) (hz : szs.length ≤ 1000) (hp : ∀ s ∈ szs, 0 < s ∧ s < 1073741824) : ∀ (c : Int) (x5 x6 x7 : Cell), ∃ (c' : Int) (ds : List Int) (y5 y6 y7 : Cell), forD (turnD (.nm 7) l0_law_draw) (szs.map PySem.PyData.int) [.d (.list (ns.map PySem.PyData.int)), .d (.int k), .d (.list (szs.map PySem.PyData.int)), .d (.int c), .own [], x5, x6, x7] = .nx [.d (.list (ns.map PySem.PyData.int)), .d (.int k), .d (.list (szs.map PySem.PyData.int)), .d (.int c'), .own (ds.map PySem.PyData.int), y5, y6, y7] ∧ Below ds szs := by
  intro c x5 x6 x7
  obtain ⟨e', h1, h2⟩ := forD_ind (g := turnD (.nm 7) l0_law_draw) (xs := szs.map PySem.PyData.int) (e := [.d (.list (ns.map PySem.PyData.int)), .d (.int k), .d (.list (szs.map PySem.PyData.int)), .d (.int c), .own [], x5, x6, x7]) (P := fun i e => ∃ (c' : Int) (ds : List Int) (y5 y6 y7 : Cell), e = [.d (.list (ns.map PySem.PyData.int)), .d (.int k), .d (.list (szs.map PySem.PyData.int)), .d (.int c'), .own (ds.map PySem.PyData.int), y5, y6, y7] ∧ ds.length = i ∧ ∀ (m : Nat) (v : Int), ds[m]? = some v → ∃ s, szs[m]? = some s ∧ 0 ≤ v ∧ v < s)
    ⟨c, [], x5, x6, x7, rfl, rfl, fun m v h => by simp at h⟩ (fun i x e hx hP => by
      obtain ⟨c', ds, y5, y6, y7, rfl, hl, hb⟩ := hP
      obtain ⟨s, hs, rfl⟩ := get_map_int hx
      obtain ⟨p1, p2⟩ := hp s (List.mem_of_getElem? hs)
      have hi : i < szs.length := (List.getElem?_eq_some_iff.mp hs).1
      refine ⟨[.d (.list (ns.map PySem.PyData.int)), .d (.int k), .d (.list (szs.map PySem.PyData.int)), .d (.int (c' / s)), .own ((ds ++ [c' % s]).map PySem.PyData.int), y5, y6, .d (.int s)], ?_, c' / s, ds ++ [c' % s], y5, y6, .d (.int s), rfl, by simp [hl], ?_⟩
      · have hlt : ds.length < 16777216 := by omega
        simp [l0_law_draw, modD_int p1, divD_int ⟨p1, p2⟩, setR, hlt]
      · exact below_more hb (by rw [hl]; exact hs) (Int.emod_nonneg _ (by omega)) (Int.emod_lt_of_pos _ p1))
  obtain ⟨c', ds, y5, y6, y7, rfl, hl, hb⟩ := h2
  exact ⟨c', ds, y5, y6, y7, h1, by rw [hl, List.length_map], hb⟩
theorem run2 (ns : List Int) (k : Nat) (szs : List Int) (hk : k ≤ 1000) (hz : szs.length ≤ 1000) (hp : ∀ s ∈ szs, 0 < s ∧ s < 1073741824) : ∀ (c m0 : Int) (x6 x7 : Cell), 0 ≤ m0 → m0 < 2147483647 → ∃ (ds : List Int) (y5 y6 : Cell), forD (turnD (.nm 6) l1_law_draw) (upFrom 0 szs.length) [.d (.list (ns.map PySem.PyData.int)), .d (.int k), .d (.list (szs.map PySem.PyData.int)), .d (.int c), .own [], .d (.int m0), x6, x7] = .nx [.d (.list (ns.map PySem.PyData.int)), .d (.int k), .d (.list (szs.map PySem.PyData.int)), .d (.int c), .own (ds.map PySem.PyData.int), y5, y6, x7] ∧ Below ds szs := by
  intro c m0 x6 x7 hm0 hm1
  obtain ⟨e', h1, h2⟩ := forD_ind (g := turnD (.nm 6) l1_law_draw) (xs := upFrom 0 szs.length) (e := [.d (.list (ns.map PySem.PyData.int)), .d (.int k), .d (.list (szs.map PySem.PyData.int)), .d (.int c), .own [], .d (.int m0), x6, x7]) (P := fun i e => ∃ (m : Int) (ds : List Int) (y6 : Cell), e = [.d (.list (ns.map PySem.PyData.int)), .d (.int k), .d (.list (szs.map PySem.PyData.int)), .d (.int c), .own (ds.map PySem.PyData.int), .d (.int m), y6, x7] ∧ 0 ≤ m ∧ m < 2147483647 ∧ ds.length = i ∧ ∀ (m : Nat) (v : Int), ds[m]? = some v → ∃ s, szs[m]? = some s ∧ 0 ≤ v ∧ v < s)
    ⟨m0, [], x6, rfl, hm0, hm1, rfl, fun m v h => by simp at h⟩ (fun i x e hx hP => by
      obtain ⟨m, ds, y6, rfl, q0, q1, hl, hb⟩ := hP
      obtain ⟨hi, rfl⟩ := up_get hx
      obtain ⟨s, hs⟩ : ∃ s, szs[i]? = some s := ⟨_, List.getElem?_eq_getElem hi⟩
      obtain ⟨p1, p2⟩ := hp s (List.mem_of_getElem? hs)
      have hlt : ds.length < 16777216 := by omega
      have es : (szs.map PySem.PyData.int)[i]? = some (.int s) := by rw [List.getElem?_map, hs]; rfl
      have ex := idx_list (xs := szs.map PySem.PyData.int) es
      refine ⟨[.d (.list (ns.map PySem.PyData.int)), .d (.int k), .d (.list (szs.map PySem.PyData.int)), .d (.int c), .own ((ds ++ [((((m * 48271 + 11 + (i : Int)) % 2147483647) * 69621 + 3) % 2147483647) / 7 % s]).map PySem.PyData.int), .d (.int ((((m * 48271 + 11 + (i : Int)) % 2147483647) * 69621 + 3) % 2147483647)), .d (.int (i : Int)), x7], ?_, _, _, _, rfl, Int.emod_nonneg _ (by decide), Int.emod_lt_of_pos _ (by decide), by simp [hl], ?_⟩
      · have b1 := Int.emod_nonneg (m * 48271 + 11 + (i : Int)) (show (2147483647 : Int) ≠ 0 by decide)
        have b2 := Int.emod_lt_of_pos (m * 48271 + 11 + (i : Int)) (show (0 : Int) < 2147483647 by decide)
        have hm1 := mulD_int (i := m) (j := 48271) (.inr (by decide))
        have hm2 := mulD_int (i := (m * 48271 + 11 + (i : Int)) % 2147483647) (j := 69621) (.inr (by decide))
        have hd1 := modD_int (i := m * 48271 + 11 + (i : Int)) (j := 2147483647) (by decide)
        have hd2 := modD_int (i := (m * 48271 + 11 + (i : Int)) % 2147483647 * 69621 + 3) (j := 2147483647) (by decide)
        have hd3 := divD_int (i := ((m * 48271 + 11 + (i : Int)) % 2147483647 * 69621 + 3) % 2147483647) (j := 7) (by decide)
        have hd4 := modD_int (i := ((m * 48271 + 11 + (i : Int)) % 2147483647 * 69621 + 3) % 2147483647 / 7) (j := s) p1
        simp [l1_law_draw, hm1, hm2, hd1, hd2, hd3, hd4, ex, setR, hlt]
      · exact below_more hb (by rw [hl]; exact hs) (Int.emod_nonneg _ (by omega)) (Int.emod_lt_of_pos _ p1))
  obtain ⟨m, ds, y6, rfl, _, _, hl, hb⟩ := h2
  have el : (upFrom 0 szs.length).length = szs.length := by simp [upFrom]
  exact ⟨ds, _, y6, h1, by rw [hl, el], hb⟩
theorem modP (i : Int) : ∃ m, modD (.d (.int i)) (.d (.int 2147483647)) = .ok (.d (.int m)) ∧ 0 ≤ m ∧ m < 2147483647 :=
  ⟨i % 2147483647, modD_int (by decide), Int.emod_nonneg _ (by decide), Int.emod_lt_of_pos _ (by decide)⟩
theorem draw_ok (ns : List Int) (k : Nat) (szs : List Int) (hk : k ≤ 1000) (hz : szs.length ≤ 1000) (hp : ∀ s ∈ szs, 0 < s ∧ s < 1073741824) : ∃ ds : List Int, m_law_draw [.list (ns.map PySem.PyData.int), .int (k : Int), .list (szs.map PySem.PyData.int)] = .ok (.own (ds.map PySem.PyData.int)) ∧ Below ds szs := by
  unfold m_law_draw runD g_law_draw
  have run1 := run1 ns k szs hk hz hp
  have run2 := run2 ns k szs hk hz hp
  have pw : powD (.d (.int 10)) (.d (.int 18)) = .ok (.d (.int (10 ^ 18))) := rfl
  have l0 : lstR (.ok []) = .ok (.own []) := lstR_ok (by decide)
  have m1 : mulD (.d (.int 31)) (.d (.int (k : Int))) = .ok (.d (.int (31 * k))) := mulD_int (.inl (by decide))
  have r1 : rng1D (.d (.int (szs.length : Int))) = .ok (upFrom 0 szs.length) := rng1_nat (by omega)
  simp [startD, cell_ok, pw, l0, m1, r1, setR]
  split
  · generalize (-cell ns k) = c
    clear pw l0
    generalize (1000000000000000000 : Int) = B
    by_cases hc : B ≤ c
    · obtain ⟨c', ds, y5, y6, y7, h1, h2⟩ := run1 (c - B) .un .un .un
      refine ⟨ds, ?_, h2⟩
      simp -implicitDefEqProofs [hc, h1, setR]
    · obtain ⟨m0, hd, q1, q2⟩ := modP (c + 1 + 31 * k)
      obtain ⟨ds, y5, y6, h1, h2⟩ := run2 c m0 .un .un q1 q2
      refine ⟨ds, ?_, h2⟩
      simp -implicitDefEqProofs [hc, h1, setR, m1, hd, r1]
  · generalize (cell ns k) = c
    clear pw l0
    generalize (1000000000000000000 : Int) = B
    by_cases hc : B ≤ c
    · obtain ⟨c', ds, y5, y6, y7, h1, h2⟩ := run1 (c - B) .un .un .un
      refine ⟨ds, ?_, h2⟩
      simp -implicitDefEqProofs [hc, h1, setR]
    · obtain ⟨m0, hd, q1, q2⟩ := modP (c + 1 + 31 * k)
      obtain ⟨ds, y5, y6, h1, h2⟩ := run2 c m0 .un .un q1 q2
      refine ⟨ds, ?_, h2⟩
      simp -implicitDefEqProofs [hc, h1, setR, m1, hd, r1]
end K89
namespace K89
open DL L2
theorem draw_any (ns : List Int) (k : Int) (szs : List Int) (h0 : 0 ≤ k) (h1 : k ≤ 1000) (hz : szs.length ≤ 1000) (hp : ∀ s ∈ szs, 0 < s ∧ s < 1073741824) : ∃ ds : List Int, m_law_draw [.list (ns.map PySem.PyData.int), .int k, .list (szs.map PySem.PyData.int)] = .ok (.own (ds.map PySem.PyData.int)) ∧ Below ds szs := by
  obtain ⟨n, rfl⟩ := Int.eq_ofNat_of_zero_le h0
  exact draw_ok ns n szs (by omega) hz hp
theorem below_get {ds szs : List Int} (h : Below ds szs) {i : Nat} {s : Int} (hi : szs[i]? = some s) : ∃ v : Nat, ds[i]? = some (v : Int) ∧ (v : Int) < s := by
  have h1 : i < ds.length := by rw [h.1]; exact (List.getElem?_eq_some_iff.mp hi).1
  obtain ⟨s', a, b, c⟩ := h.2 i ds[i] (List.getElem?_eq_getElem h1)
  rw [hi] at a
  cases a
  obtain ⟨v, hv⟩ := Int.eq_ofNat_of_zero_le b
  exact ⟨v, by rw [List.getElem?_eq_getElem h1, hv], by omega⟩
theorem draw_get {ds : List Int} {i : Nat} {v : Int} (h : ds[i]? = some v) : idxD (.own (ds.map PySem.PyData.int)) (.d (.int (i : Int))) = .ok (.d (.int v)) := ixO h
/-- the readings -/
def RD : List D := [.tuple [.int 0], .tuple [.none], .tuple [.int 1], .tuple [], .tuple [.int 0, .int 1], .tuple [.int (-2000000000), .none]]
def L4 : List Vd := [.sure, .never, .unknown, .impossible]
theorem natI {i : Int} (h0 : 0 ≤ i) : ∃ n : Nat, i = (n : Int) := Int.eq_ofNat_of_zero_le h0
theorem mon_row (c0 c1 c3 c4 c7 c8 c10 c11 : Cell) {ds : List Int} (hb : Below ds (List.replicate 60 97)) {n w node : Nat} (hn : 0 < n) (hn6 : n ≤ 6) (hw : w ≤ 3) (hnode : node < n) (c13 : Cell) :
    ∃ row y13, row.length = w ∧ (∀ c ∈ row, c < n) ∧ forD (turnD (.nm 13) l0_law_some_monitor) (nats (List.range w)) [c0, c1, .d (.int (w : Int)), c3, c4, .d (.int (n : Int)), .own (ds.map PySem.PyData.int), c7, c8, .d (nat node), c10, c11, .own [], c13] =
      .nx [c0, c1, .d (.int (w : Int)), c3, c4, .d (.int (n : Int)), .own (ds.map PySem.PyData.int), c7, c8, .d (nat node), c10, c11, .own (nats row), y13] := by
  obtain ⟨e', h, hP⟩ := forD_ind (g := turnD (.nm 13) l0_law_some_monitor) (xs := nats (List.range w)) (e := [c0, c1, .d (.int (w : Int)), c3, c4, .d (.int (n : Int)), .own (ds.map PySem.PyData.int), c7, c8, .d (nat node), c10, c11, .own [], c13])
    (P := fun i e => ∃ row y13, row.length = i ∧ (∀ c ∈ row, c < n) ∧ e = [c0, c1, .d (.int (w : Int)), c3, c4, .d (.int (n : Int)), .own (ds.map PySem.PyData.int), c7, c8, .d (nat node), c10, c11, .own (nats row), y13]) ⟨[], c13, rfl, by simp, rfl⟩ (fun i x e hx hP => by
      obtain ⟨row, y13, hl, hr, rfl⟩ := hP
      rw [List.getElem?_map, Option.map_eq_some_iff] at hx
      obtain ⟨j, hj, rfl⟩ := hx
      obtain ⟨hi, hj⟩ := List.getElem?_eq_some_iff.mp hj
      rw [List.getElem_range] at hj
      subst hj
      rw [List.length_range] at hi
      obtain ⟨v, gv, lv⟩ := below_get hb (i := (node * w + i + 7) % 60) (s := 97) (by rw [List.getElem?_replicate, if_pos (Nat.mod_lt _ (by decide))])
      have iv := draw_get gv
      have m1 : mulD (.d (.int (node : Int))) (.d (.int (w : Int))) = .ok (.d (.int ((node : Int) * (w : Int)))) := mulD_int (.inl ⟨by omega, by omega⟩)
      have e1 : ((node : Int) * (w : Int) + (i : Int) + 7) % 60 = (((node * w + i + 7) % 60 : Nat) : Int) := by
        rw [Int.natCast_emod]; simp
      have m2 : modD (.d (.int ((node : Int) * (w : Int) + (i : Int) + 7))) (.d (.int 60)) = .ok (.d (.int (((node * w + i + 7) % 60 : Nat) : Int))) := by rw [modD_int (by decide), e1]
      have d1 : divD (.d (.int (node : Int))) (.d (.int 5)) = .ok (.d (.int ((node : Int) / 5))) := divD_int (by decide)
      have m3 : mulD (.d (.int (v : Int))) (.d (.int (1 + (node : Int) / 5))) = .ok (.d (.int ((v : Int) * (1 + (node : Int) / 5)))) := mulD_int (.inl ⟨by omega, by omega⟩)
      have nn : 0 ≤ ((v : Int) * (1 + (node : Int) / 5) + (i : Int)) % (n : Int) := Int.emod_nonneg _ (by omega)
      have nl : ((v : Int) * (1 + (node : Int) / 5) + (i : Int)) % (n : Int) < (n : Int) := Int.emod_lt_of_pos _ (by omega)
      obtain ⟨c, hc⟩ := natI nn
      have m4 : modD (.d (.int ((v : Int) * (1 + (node : Int) / 5) + (i : Int)))) (.d (.int (n : Int))) = .ok (.d (.int (c : Int))) := by rw [modD_int (by omega), hc]
      have l1 : row.length < 16777216 := by omega
      generalize (node * w + i + 7) % 60 = z at *
      refine ⟨[c0, c1, .d (.int (w : Int)), c3, c4, .d (.int (n : Int)), .own (ds.map PySem.PyData.int), c7, c8, .d (nat node), c10, c11, .own (nats row ++ [nat c]), .d (nat i)], ?_, row ++ [c], .d (nat i), by simp; omega, fun x hx => ?_, by simp⟩
      · generalize ds.map PySem.PyData.int = DS at *
        simp -implicitDefEqProofs [l0_law_some_monitor, m1, m2, iv, d1, m3, m4, l1]
      · rcases List.mem_append.mp hx with hx | hx
        · exact hr x hx
        · rw [List.mem_singleton.mp hx]; omega)
  obtain ⟨row, y13, hl, hr, rfl⟩ := hP
  rw [List.length_map, List.length_range] at hl
  exact ⟨row, y13, hl, hr, h⟩
theorem some_ok (ns : List Int) (k w : Nat) (hk : k ≤ 100) (hw1 : 1 ≤ w) (hw : w ≤ 3) : ∃ f V E, m_law_some_monitor [.list (ns.map PySem.PyData.int), .int (k : Int), .int (w : Int), .int 6] = .ok (.d (mon (RD.take w) f V E)) ∧ Sm f V E w ∧ E.length ≤ 6 := by
  obtain ⟨cs, hc, hcb⟩ := draw_any ns (k : Int) [6] (by omega) (by omega) (by decide) (by decide)
  obtain ⟨v0, g0, l0⟩ := below_get hcb (i := 0) (s := 6) rfl
  have i0 : idxD (.own (cs.map PySem.PyData.int)) (.d (.int 0)) = .ok (.d (.int (v0 : Int))) := draw_get (i := 0) g0
  obtain ⟨n, hn⟩ : ∃ n : Nat, n = 1 + v0 := ⟨_, rfl⟩
  have nv : 1 + (v0 : Int) = (n : Int) := by omega
  obtain ⟨ds, hd, hb⟩ := draw_any ns ((k : Int) + 1) (List.replicate 60 97) (by omega) (by omega) (by decide) (by intro s hs; rw [List.eq_of_mem_replicate hs]; decide)
  obtain ⟨es, he, heb⟩ := draw_any ns ((k : Int) + 2) [(n : Int)] (by omega) (by omega) (by simp) (by intro s hs; rw [List.mem_singleton.mp hs]; omega)
  obtain ⟨u, g1, l1⟩ := below_get heb (i := 0) (s := (n : Int)) rfl
  have i1 : idxD (.own (es.map PySem.PyData.int)) (.d (.int 0)) = .ok (.d (.int (u : Int))) := draw_get (i := 0) g1
  have le : lstR (.ok []) = .ok (.own []) := lstR_ok (by decide)
  have l6 : lstR (.ok [PySem.PyData.int 6]) = .ok (.own [.int 6]) := lstR_ok (by decide)
  have ln : lstR (.ok [PySem.PyData.int (n : Int)]) = .ok (.own [.int (n : Int)]) := lstR_ok (by simp)
  have l97 : lstR (.ok [PySem.PyData.int 97]) = .ok (.own [.int 97]) := lstR_ok (by decide)
  have e97 : mulD (.own [.int 97]) (.d (.int 60)) = .ok (.own ((List.replicate 60 (97 : Int)).map PySem.PyData.int)) := by
    rw [show (60 : Int) = ((60 : Nat) : Int) from rfl, mulD_one (by decide), List.map_replicate]
  have r1 : rng1D (.d (.int (n : Int))) = .ok (nats (List.range n)) := rng_nats (by omega)
  have rw1 : rng1D (.d (.int (w : Int))) = .ok (nats (List.range w)) := rng_nats (by omega)
  have l4 : lstR (.ok [PySem.PyData.str (PySem.Str.ofString "sure"), .str (PySem.Str.ofString "never"), .str (PySem.Str.ofString "unknown"), .str (PySem.Str.ofString "impossible")]) = .ok (.own (L4.map vt)) := lstR_ok (by simp)
  have lR : lstR (.ok RD) = .ok (.own RD) := lstR_ok (by decide)
  have sl : sliceA (.own RD) none (some (w : Int)) = .ok (.own (RD.take w)) := by rw [sliceA_own, cut_to]
  have t0 : tupR (.ok []) = .ok (.d (.tuple [])) := tupR_ok (by simp)
  have t1 : ∀ a : D, tupR (.ok [a]) = .ok (.d (.tuple [a])) := fun a => tupR_ok (by simp)
  obtain ⟨e', h, hP⟩ := forD_ind (g := turnD (.nm 9) l1_law_some_monitor) (xs := nats (List.range n)) (e := [.d (.list (ns.map PySem.PyData.int)), .d (.int (k : Int)), .d (.int (w : Int)), .d (.int 6), .own (RD.take w), .d (.int (n : Int)), .own (ds.map PySem.PyData.int), .own [], .own [], .un, .un, .un, .un, .un])
    (P := fun i e => ∃ (V : List Vd) (E : List (List Nat)) (y9 y11 y12 y13 : Cell), V.length = i ∧ E.length = i ∧ (∀ r ∈ E, r.length = w ∧ ∀ c ∈ r, c < n) ∧ e = [.d (.list (ns.map PySem.PyData.int)), .d (.int (k : Int)), .d (.int (w : Int)), .d (.int 6), .own (RD.take w), .d (.int (n : Int)), .own (ds.map PySem.PyData.int), .own (V.map vt), .own (E.map stepD), y9, .un, y11, y12, y13]) ⟨[], [], _, _, _, _, rfl, rfl, by simp, rfl⟩ (fun i x e hx hP => by
      obtain ⟨V, E, y9, y11, y12, y13, hV, hE, hr, rfl⟩ := hP
      rw [List.getElem?_map, Option.map_eq_some_iff] at hx
      obtain ⟨j, hj, rfl⟩ := hx
      obtain ⟨hi, hj⟩ := List.getElem?_eq_some_iff.mp hj
      rw [List.getElem_range] at hj
      subst hj
      rw [List.length_range] at hi
      obtain ⟨v, gv, lv⟩ := below_get hb (i := i) (s := 97) (by rw [List.getElem?_replicate, if_pos (by omega)])
      have iv := draw_get gv
      have m1 : modD (.d (.int (i : Int))) (.d (.int 60)) = .ok (.d (.int (i : Int))) := by rw [modD_int (by decide), Int.emod_eq_of_lt (by omega) (by omega)]
      have d1 : divD (.d (.int (i : Int))) (.d (.int 60)) = .ok (.d (.int ((i : Int) / 60))) := divD_int (by decide)
      have m3 : modD (.d (.int (v : Int))) (.d (.int 3)) = .ok (.d (.int ((v : Int) % 3))) := modD_int (by decide)
      have b3 : 0 ≤ (v : Int) % 3 ∧ (v : Int) % 3 < 3 := ⟨Int.emod_nonneg _ (by decide), Int.emod_lt_of_pos _ (by decide)⟩
      have nn : 0 ≤ ((v : Int) + (i : Int) / 60) % (2 + (v : Int) % 3) := Int.emod_nonneg _ (by omega)
      have nl : ((v : Int) + (i : Int) / 60) % (2 + (v : Int) % 3) < 2 + (v : Int) % 3 := Int.emod_lt_of_pos _ (by omega)
      obtain ⟨c, hcc⟩ := natI nn
      have m4 : modD (.d (.int ((v : Int) + (i : Int) / 60))) (.d (.int (2 + (v : Int) % 3))) = .ok (.d (.int (c : Int))) := by rw [modD_int (by omega), hcc]
      have c4 : c < L4.length := by show c < 4; omega
      have iL : idxD (.own (L4.map vt)) (.d (.int (c : Int))) = .ok (.d (vt (L4.getD c .sure))) := ixO (getS c4)
      obtain ⟨row, z13, hrl, hrb, hrow⟩ := mon_row (.d (.list (ns.map PySem.PyData.int))) (.d (.int (k : Int))) (.d (.int 6)) (.own (RD.take w)) (.own ((V ++ [L4.getD c .sure]).map vt)) (.own (E.map stepD)) .un (.d (.int (v : Int))) hb (n := n) (by omega) (by omega) hw hi y13
      have lV : V.length < 16777216 := by omega
      have lE : E.length < 16777216 := by omega
      refine ⟨[.d (.list (ns.map PySem.PyData.int)), .d (.int (k : Int)), .d (.int (w : Int)), .d (.int 6), .own (RD.take w), .d (.int (n : Int)), .own (ds.map PySem.PyData.int), .own ((V ++ [L4.getD c .sure]).map vt), .own (E.map stepD ++ [.tuple (nats row)]), .d (nat i), .un, .d (.int (v : Int)), .own (nats row), z13], ?_, V ++ [L4.getD c .sure], E ++ [row], _, _, _, z13, by simp; omega, by simp; omega, fun r hr' => ?_, by rw [List.map_append (l₁ := E)]; rfl⟩
      · generalize L4.getD c .sure = vv at *
        generalize L4.map vt = LL at *
        generalize RD.take w = RR at *
        generalize ds.map PySem.PyData.int = DS at *
        generalize ns.map PySem.PyData.int = NS at *
        simp -implicitDefEqProofs only [List.map_append, List.map_cons, List.map_nil] at hrow ⊢
        simp -implicitDefEqProofs [l1_law_some_monitor, m1, iv, setR, l4, d1, m3, m4, iL, lV, le, rw1, hrow, lE]
      · rcases List.mem_append.mp hr' with hr' | hr'
        · exact hr r hr'
        · rw [List.mem_singleton.mp hr']; exact ⟨hrl, hrb⟩)
  obtain ⟨V, E, y9, y11, y12, y13, hV, hE, hr, rfl⟩ := hP
  rw [List.length_map, List.length_range] at hV hE
  have row : ∀ a < E.length, (E.getD a []).length = w ∧ ∀ c ∈ E.getD a [], c < n := fun a ha => hr _ (getD_mem ha)
  refine ⟨u, V, E, ?_, ⟨⟨by omega, by omega, by omega, fun a ha => ⟨by have := (row a ha).1; omega, fun c hc => by have := (row a ha).2 c hc; omega⟩⟩, by omega, fun a ha => (row a ha).1, by omega⟩, by omega⟩
  have t4 := tup4 (.tuple (RD.take w)) (.int (u : Int)) (.tuple (V.map vt)) (.tuple (E.map stepD))
  have em : mon (RD.take w) u V E = .tuple [.tuple (RD.take w), .int (u : Int), .tuple (V.map vt), .tuple (E.map stepD)] := by unfold mon; rfl
  rw [← em] at t4
  have lR' : lstR (.ok [PySem.PyData.tuple [.int 0], .tuple [.none], .tuple [.int 1], .tuple [], .tuple [.int 0, .int 1], .tuple [.int (-2000000000), .none]]) = .ok (.own RD) := lR
  generalize RD.take w = RR at *
  generalize RD = R6 at *
  generalize mon RR u V E = M at *
  generalize List.replicate 60 (97 : Int) = W97 at *
  have hd2 := hd
  simp -implicitDefEqProofs at hc he
  unfold m_law_some_monitor runD g_law_some_monitor
  simp -implicitDefEqProofs [startD, t0, t1, tup2, lR', sl, setR, l6, hc, i0, nv, l97, e97, hd, le, r1, h, ln, he, i1, t4]
theorem two_ok (ns : List Int) : ∃ w f V E f' V' E', 1 ≤ w ∧ w ≤ 3 ∧ m_law_two_monitors [.list (ns.map PySem.PyData.int)] = .ok (.d (.tuple [mon (RD.take w) f V E, mon (RD.take w) f' V' E'])) ∧ Sm f V E w ∧ Sm f' V' E' w ∧ E.length ≤ 6 ∧ E'.length ≤ 6 := by
  obtain ⟨cs, hc, hcb⟩ := draw_any ns 0 [3] (by decide) (by decide) (by decide) (by decide)
  obtain ⟨v0, g0, l0⟩ := below_get hcb (i := 0) (s := 3) rfl
  have i0 : idxD (.own (cs.map PySem.PyData.int)) (.d (.int 0)) = .ok (.d (.int (v0 : Int))) := draw_get (i := 0) g0
  obtain ⟨w, hw⟩ : ∃ w : Nat, w = 1 + v0 := ⟨_, rfl⟩
  have wv : 1 + (v0 : Int) = (w : Int) := by omega
  obtain ⟨f, V, E, hl, sl, l6⟩ := some_ok ns 1 w (by decide) (by omega) (by omega)
  obtain ⟨f', V', E', hl', sl', l6'⟩ := some_ok ns 5 w (by decide) (by omega) (by omega)
  have hl : m_law_some_monitor [.list (ns.map PySem.PyData.int), .int 1, .int (w : Int), .int 6] = .ok (.d (mon (RD.take w) f V E)) := hl
  have hl' : m_law_some_monitor [.list (ns.map PySem.PyData.int), .int 5, .int (w : Int), .int 6] = .ok (.d (mon (RD.take w) f' V' E')) := hl'
  obtain ⟨hs, hh, hhb⟩ := draw_any ns 9 [5, 6, 4] (by decide) (by decide) (by decide) (by decide)
  obtain ⟨a, ga, la⟩ := below_get hhb (i := 0) (s := 5) rfl
  obtain ⟨b, gb, lb⟩ := below_get hhb (i := 1) (s := 6) rfl
  obtain ⟨c, gc, lc⟩ := below_get hhb (i := 2) (s := 4) rfl
  have ia : idxD (.own (hs.map PySem.PyData.int)) (.d (.int 0)) = .ok (.d (.int (a : Int))) := draw_get (i := 0) ga
  have ib : idxD (.own (hs.map PySem.PyData.int)) (.d (.int 1)) = .ok (.d (.int (b : Int))) := draw_get (i := 1) gb
  have ic : idxD (.own (hs.map PySem.PyData.int)) (.d (.int 2)) = .ok (.d (.int (c : Int))) := draw_get (i := 2) gc
  have l3 : lstR (.ok [PySem.PyData.int 3]) = .ok (.own [.int 3]) := lstR_ok (by decide)
  have l5 : lstR (.ok [PySem.PyData.int 5, .int 6, .int 4]) = .ok (.own [.int 5, .int 6, .int 4]) := lstR_ok (by decide)
  have l4 : lstR (.ok [PySem.PyData.str (PySem.Str.ofString "sure"), .str (PySem.Str.ofString "never"), .str (PySem.Str.ofString "unknown"), .str (PySem.Str.ofString "impossible")]) = .ok (.own (L4.map vt)) := lstR_ok (by simp)
  have iL : idxD (.own (L4.map vt)) (.d (.int (c : Int))) = .ok (.d (vt (L4.getD c .sure))) := ixO (getS (by show c < 4; omega))
  simp -implicitDefEqProofs at hc hh
  have z0 : eqD (.d (.int (a : Int))) (.d (.int 0)) = .ok (.d (.bool (decide (a = 0)))) := by
    have q : ((a : Int) = 0) ↔ a = 0 := by omega
    rw [int_eqD, decide_eq_decide.mpr q]
  have z1 : eqD (.d (.int (a : Int))) (.d (.int 1)) = .ok (.d (.bool (decide (a = 1)))) := by
    have q : ((a : Int) = 1) ↔ a = 1 := by omega
    rw [int_eqD, decide_eq_decide.mpr q]
  by_cases q0 : a = 0
  · rw [decide_eq_true q0] at z0
    rw [decide_eq_false (by omega : ¬ a = 1)] at z1
    refine ⟨w, f, V, E, f, V, E, by omega, by omega, ?_, sl, sl, l6, l6⟩
    unfold m_law_two_monitors runD g_law_two_monitors
    simp -implicitDefEqProofs [startD, l3, hc, i0, wv, setR, hl, hl', l5, hh, ia, z0, z1, tup2]
  · rw [decide_eq_false q0] at z0
    by_cases q1 : a = 1
    · rw [decide_eq_true q1] at z1
      have vl : 0 < V.length := by have := sl.ok.len; have := sl.ok.fst; omega
      have mb : modD (.d (.int (b : Int))) (.d (.int (V.length : Int))) = .ok (.d (.int ((b % V.length : Nat) : Int))) := by
        rw [modD_int (by omega), Int.natCast_emod]
      have bl := Nat.mod_lt b vl
      have lv : lenD (.own (V.map vt)) = .ok (.d (.int (V.length : Int))) := by
        show R.ok (Cell.d (.int ((V.map vt).length : Int))) = _
        rw [List.length_map]
      generalize b % V.length = z at *
      have st : setAt (V.map vt) (z : Int) (vt (L4.getD c .sure)) = some ((V.set z (L4.getD c .sure)).map vt) := by
        rw [setAt_nat (by rw [List.length_map]; exact bl), List.map_set]
      have ci : cellI (.d (.int (z : Int))) = .ok (z : Int) := rfl
      have t4 := tup4 (.tuple (RD.take w)) (.int (f : Int)) (.tuple ((V.set z (L4.getD c .sure)).map vt)) (.tuple (E.map stepD))
      have em : mon (RD.take w) f (V.set z (L4.getD c .sure)) E = .tuple [.tuple (RD.take w), .int (f : Int), .tuple ((V.set z (L4.getD c .sure)).map vt), .tuple (E.map stepD)] := by unfold mon; rfl
      rw [← em] at t4
      have so := sl.ok
      refine ⟨w, f, V, E, f, V.set z (L4.getD c .sure), E, by omega, by omega, ?_, sl, ⟨⟨by rw [List.length_set]; exact so.len, so.fst, so.small, so.row⟩, sl.n4, sl.wide, sl.w1⟩, l6, l6⟩
      generalize hZV : (V.set z (L4.getD c .sure)).map vt = ZV at *
      generalize mon (RD.take w) f (V.set z (L4.getD c .sure)) E = M2 at *
      generalize L4.getD c .sure = vv at *
      generalize L4.map vt = LL at *
      unfold m_law_two_monitors runD g_law_two_monitors
      simp -implicitDefEqProofs [startD, l3, hc, i0, wv, setR, hl, hl', l5, hh, ia, ib, ic, z0, z1, tup2, mon0, mon1, mon2, mon3, l4, iL, lv, mb, -List.map_set]
      rw [st]
      simp -implicitDefEqProofs [mon0, mon1, mon2, mon3, t4, tup2, setR, -List.map_set]
    · rw [decide_eq_false q1] at z1
      refine ⟨w, f, V, E, f', V', E', by omega, by omega, ?_, sl, sl', l6, l6'⟩
      unfold m_law_two_monitors runD g_law_two_monitors
      simp -implicitDefEqProofs [startD, l3, hc, i0, wv, setR, hl, hl', l5, hh, ia, z0, z1, tup2]
end K89
namespace K89
open DL L2
open K88 (add1 seenGo num numGo num_map mem_seen idx_new seen_pre)
/-! ### joined verdicts -/
inductive Kd where
  | both | one | told
deriving DecidableEq
def kd : Kd → D
  | .both => .str (PySem.Str.ofString "both")
  | .one => .str (PySem.Str.ofString "one")
  | .told => .str (PySem.Str.ofString "told")
def opp : Vd → Vd
  | .sure => .never
  | .never => .sure
  | v => v
def jBoth (x y : Vd) : Vd := if x = .impossible ∨ y = .impossible then .impossible else if x = .never ∨ y = .never then .never else if x = .sure ∧ y = .sure then .sure else .unknown
def jTold (x y : Vd) : Vd := if x = .impossible ∨ y = .impossible then .impossible else if x = .unknown then y else if y = .unknown ∨ x = y then x else .impossible
def jv : Kd → Vd → Vd → Vd
  | .both, x, y => jBoth x y
  | .one, x, y => opp (jBoth (opp x) (opp y))
  | .told, x, y => jTold x y
theorem kdE : Enc kd 0 := ⟨fun x => by cases x <;> decide +kernel, fun x => by cases x <;> decide +kernel, fun x y => by cases x <;> cases y <;> decide +kernel⟩
theorem eqS (x : Vd) : eqD (.d (vt x)) (.d (.str (PySem.Str.ofString "sure"))) = .ok (.d (.bool (decide (x = .sure)))) := vtE.eqq (by decide) x .sure
theorem eqN (x : Vd) : eqD (.d (vt x)) (.d (.str (PySem.Str.ofString "never"))) = .ok (.d (.bool (decide (x = .never)))) := vtE.eqq (by decide) x .never
theorem eqU (x : Vd) : eqD (.d (vt x)) (.d (.str (PySem.Str.ofString "unknown"))) = .ok (.d (.bool (decide (x = .unknown)))) := vtE.eqq (by decide) x .unknown
theorem eqI (x : Vd) : eqD (.d (vt x)) (.d (.str (PySem.Str.ofString "impossible"))) = .ok (.d (.bool (decide (x = .impossible)))) := vtE.eqq (by decide) x .impossible
theorem neU (x : Vd) : neD (.d (vt x)) (.d (.str (PySem.Str.ofString "unknown"))) = .ok (.d (.bool (!decide (x = .unknown)))) := vtE.ne (by decide) x .unknown
theorem eqXY (x y : Vd) : eqD (.d (vt x)) (.d (vt y)) = .ok (.d (.bool (decide (x = y)))) := vtE.eqq (by decide) x y
theorem eqK1 (k : Kd) : eqD (.d (kd k)) (.d (.str (PySem.Str.ofString "one"))) = .ok (.d (.bool (decide (k = .one)))) := kdE.eqq (by decide) k .one
theorem eqKb (k : Kd) : eqD (.d (kd k)) (.d (.str (PySem.Str.ofString "both"))) = .ok (.d (.bool (decide (k = .both)))) := kdE.eqq (by decide) k .both
theorem eqKt (k : Kd) : eqD (.d (kd k)) (.d (.str (PySem.Str.ofString "told"))) = .ok (.d (.bool (decide (k = .told)))) := kdE.eqq (by decide) k .told
theorem turned_ok (x : Vd) : m_turned [vt x] = .ok (.d (vt (opp x))) := by
  unfold m_turned runD g_turned
  cases x <;> simp -implicitDefEqProofs [startD, eqS, eqN, opp] <;> rfl
theorem opposed_ok (x : Vd) : m_law_opposed [vt x] = .ok (.d (vt (opp x))) := by
  unfold m_law_opposed runD g_law_opposed
  cases x <;> simp -implicitDefEqProofs [startD, eqS, eqN, opp] <;> rfl
theorem both_v (x y : Vd) : m_met_by_both [vt x, vt y] = .ok (.d (vt (jBoth x y))) := by
  unfold m_met_by_both runD g_met_by_both
  cases x <;> cases y <;> simp -implicitDefEqProofs [startD, eqS, eqN, eqI, jBoth] <;> rfl
theorem told_v (x y : Vd) : m_told_by_one [vt x, vt y] = .ok (.d (vt (jTold x y))) := by
  unfold m_told_by_one runD g_told_by_one
  cases x <;> cases y <;> simp -implicitDefEqProofs [startD, eqU, eqXY, eqI, jTold] <;> rfl
theorem one_v (x y : Vd) : m_met_by_one [vt x, vt y] = .ok (.d (vt (jv .one x y))) := by
  unfold m_met_by_one runD g_met_by_one
  simp -implicitDefEqProofs [startD, turned_ok, both_v, jv]
theorem inV (v x y : Vd) : inD (.d (vt v)) (.own [vt x, vt y]) = .ok (.d (.bool (decide (v ∈ [x, y])))) := vtE.inO (by decide) v [x, y]
theorem joined_in (rec : List D → R Cell) (k : Kd) (hk : k ≠ .one) (x y : Vd) : runD 6 3 (g_law_joined_verdict rec) [kd k, vt x, vt y] = .ok (.d (vt (jv k x y))) := by
  have l2 : ∀ a b : D, lstR (.ok [a, b]) = .ok (.own [a, b]) := fun a b => lstR_ok (by simp)
  have l1 : ∀ a : D, lstR (.ok [a]) = .ok (.own [a]) := fun a => lstR_ok (by simp)
  have i1 : inD (.d (.str (PySem.Str.ofString "impossible"))) (.own [vt x, vt y]) = .ok (.d (.bool (decide (Vd.impossible ∈ [x, y])))) := inV .impossible x y
  have i2 : inD (.d (.str (PySem.Str.ofString "sure"))) (.own [vt x, vt y]) = .ok (.d (.bool (decide (Vd.sure ∈ [x, y])))) := inV .sure x y
  have i3 : inD (.d (.str (PySem.Str.ofString "never"))) (.own [vt x, vt y]) = .ok (.d (.bool (decide (Vd.never ∈ [x, y])))) := inV .never x y
  have e2 : eqD (.own [vt x, vt y]) (.own [.str (PySem.Str.ofString "sure"), .str (PySem.Str.ofString "sure")]) = .ok (.d (.bool (decide ([x, y] = [.sure, .sure])))) := vtE.eqO (by decide) [x, y] [.sure, .sure]
  have lc : ∀ (e : Env), e.length = 6 → lcL (lcD ([5] : List Nat) (.nm 5) (fun en => (((getC 5 en).bind fun x => neD x (.d (.str (PySem.Str.ofString "unknown")))).bind asB)) (fun en => (getC 5 en).bind Cell.val) [vt x, vt y] e) = .ok (.own (([x, y].filter fun v : Vd => !decide (v = Vd.unknown)).map vt)) := fun e he => by
    obtain ⟨a0, a1, a2, a3, a4, a5, rfl⟩ : ∃ a0 a1 a2 a3 a4 a5, e = [a0, a1, a2, a3, a4, a5] := by
      match e, he with
      | [a0, a1, a2, a3, a4, a5], _ => exact ⟨a0, a1, a2, a3, a4, a5, rfl⟩
    exact lc_if (em := vt) (xs := [x, y]) (by simp) (fun v _ => by simp -implicitDefEqProofs [wipeC, neU]) (fun v _ _ => by simp -implicitDefEqProofs [wipeC])
  have ad : ∀ zs : List Vd, zs.length ≤ 10 → addD (.own (zs.map vt)) (.own [.str (PySem.Str.ofString "unknown")]) = .ok (.own ((zs ++ [Vd.unknown]).map vt)) := fun zs hz => by
    rw [addD_own (by simp; omega), List.map_append]; rfl
  have ix : ∀ (z : Vd) (zs : List Vd), idxD (.own ((z :: zs).map vt)) (.d (.int 0)) = .ok (.d (vt z)) := fun z zs => ixO (k := 0) rfl
  unfold runD g_law_joined_verdict
  cases k
  · have k1 := eqK1 .both
    have k2 := eqKt .both
    cases x <;> cases y <;> simp -implicitDefEqProofs [startD, k1, k2, l2, i1, i3, e2, jv, jBoth, setR, intD] <;> first | done | rfl | skip
  · exact absurd rfl hk
  · have k1 := eqK1 .told
    have k2 := eqKt .told
    have a0 := ad [] (by decide)
    have a1 := ad [x] (by simp)
    have a2 := ad [y] (by simp)
    have a3 := ad [x, y] (by simp)
    simp only [List.map_nil, List.map_cons, List.nil_append, List.cons_append] at a0 a1 a2 a3
    cases x <;> cases y <;> simp -implicitDefEqProofs [startD, k1, k2, l2, l1, i1, i2, i3, lc, a0, a1, a2, a3, jv, jTold, setR] <;> first | done | rfl | skip
theorem joined_v (k : Kd) (x y : Vd) : m_law_joined_verdict 2 [kd k, vt x, vt y] = .ok (.d (vt (jv k x y))) := by
  by_cases hk : k = .one
  · subst hk
    have k1 := eqK1 .one
    have r1 : m_law_joined_verdict 1 [.str (PySem.Str.ofString "both"), vt (opp x), vt (opp y)] = .ok (.d (vt (jBoth (opp x) (opp y)))) := joined_in (m_law_joined_verdict 0) .both (by decide) (opp x) (opp y)
    show runD 6 3 (g_law_joined_verdict (m_law_joined_verdict 1)) [kd .one, vt x, vt y] = _
    unfold runD g_law_joined_verdict
    simp -implicitDefEqProofs [startD, k1, opposed_ok, r1, jv]
  · exact joined_in _ k hk x y
/-! ### a comprehension over pairs -/
theorem turn_pp {i j : Nat} {g : Env → Out} {p : Pr} {e : Env} : turnD (.tp [i, j]) g (ppD p) e = g ((e.set i (.d (nat p.1))).set j (.d (nat p.2))) := rfl
theorem lc_pp {vs : List Nat} {i j : Nat} {f : Env → R Cell} {xs : List Pr} {e : Env} {g : Pr → D} (hl : xs.length ≤ 16777216)
    (hf : ∀ p ∈ xs, f (((wipeC e vs).set i (.d (nat p.1))).set j (.d (nat p.2))) = .ok (.d (g p))) :
    lcL (lcD vs (.tp [i, j]) (fun _ => .ok true) f (xs.map ppD) e) = .ok (.own (xs.map g)) := by
  have go : ∀ ys : List Pr, (∀ p ∈ ys, f (((wipeC e vs).set i (.d (nat p.1))).set j (.d (nat p.2))) = .ok (.d (g p))) → lcD vs (.tp [i, j]) (fun _ => .ok true) f (ys.map ppD) e = .ok ((ys.map g).map Cell.d) := by
    intro ys
    induction ys with
    | nil => exact fun _ => rfl
    | cons y ys ih =>
      intro h
      show (R.ok true).bind (fun b => if b = true then (f (((wipeC e vs).set i (.d (nat y.1))).set j (.d (nat y.2)))).bind (fun y => (lcD vs (.tp [i, j]) (fun _ => .ok true) f (ys.map ppD) e).bind fun ys => .ok (y :: ys)) else lcD vs (.tp [i, j]) (fun _ => .ok true) f (ys.map ppD) e) = _
      rw [R.bind_ok, if_pos rfl, h y List.mem_cons_self, R.bind_ok, ih fun w hw => h w (List.mem_cons_of_mem _ hw)]
      rfl
  rw [go xs hf]
  exact lcL_cells (by rw [List.length_map]; exact hl)
/-! ### the joined monitor -/
section
variable {rd : List D} {f f' w : Nat} {V V' : List Vd} {E E' : List (List Nat)}
def jV (k : Kd) (w f f' : Nat) (V V' : List Vd) (E E' : List (List Nat)) : List Vd := (prs w f f' E E').map fun p => jv k (V.getD p.1 .sure) (V'.getD p.2 .sure)
theorem prs_in (hm : Sm f V E w) (hm' : Sm f' V' E' w) : ∀ p ∈ prs w f f' E E', In E.length E'.length p := bfsP_in hm hm' _ _ _ (one_in hm hm')
theorem prs_len (hm : Sm f V E w) (hm' : Sm f' V' E' w) : (prs w f f' E E').length ≤ E.length * E'.length := bfsP_len hm hm' _ _ _ (by simp) (one_in hm hm')
theorem prs_cl (hm : Sm f V E w) (hm' : Sm f' V' E' w) : ∀ p ∈ prs w f f' E E', ∀ y ∈ succP w E E' p, y ∈ prs w f f' E E' :=
  bfs_closed _ 0 [(f, f')] (fun i hi => absurd hi (Nat.not_lt_zero _)) (by rw [Nat.zero_add]; exact prs_len hm hm')
theorem join_sm (k : Kd) (hm : Sm f V E w) (hm' : Sm f' V' E' w) (nn : E.length * E'.length ≤ 400) : Sm 0 (jV k w f f' V V' E E') (prE w f f' E E') w := by
  have ln := prs_len hm hm'
  have le : (prE w f f' E E').length = (prs w f f' E E').length := List.length_map _
  have pos : 0 < (prs w f f' E E').length := by
    obtain ⟨t, e⟩ := bfs_pre (succ := succP w E E') (E.length * E'.length) 0 [(f, f')]
    have e : prs w f f' E E' = [(f, f')] ++ t := e
    rw [e]; simp
  have row : ∀ a < (prE w f f' E E').length, (prE w f f' E E').getD a [] = (succP w E E' ((prs w f f' E E').getD a (0, 0))).map fun y => posOf (prs w f f' E E') y := fun a ha => by
    unfold prE
    rw [List.getD_eq_getElem?_getD, List.getElem?_map, getS (z := (0, 0)) (by rw [← le]; exact ha)]; rfl
  have wid : ∀ a < (prE w f f' E E').length, ((prE w f f' E E').getD a []).length = w := fun a ha => by
    rw [row a ha, List.length_map, succP_len]
  refine ⟨⟨by rw [le]; exact List.length_map _, by rw [le]; exact pos, by rw [le]; omega, fun a ha => ⟨by rw [wid a ha]; exact hm.w1, fun c hc => ?_⟩⟩, by rw [le]; omega, wid, hm.w1⟩
  rw [row a ha] at hc
  obtain ⟨y, hy, rfl⟩ := List.mem_map.mp hc
  rw [le]
  exact pos_lt (prs_cl hm hm' _ (getD_mem (by rw [← le]; exact ha)) y hy)
theorem jturn_ok (k : Kd) (hm : Sm f V E w) (hm' : Sm f' V' E' w) {p : Pr} (hp : In E.length E'.length p) (B : List Vd) (hB : B.length < 16777216) (c4 c5 c6 c7 c8 c9 : Cell) :
    ∃ y8 y9, turnD (.tp [6, 7]) l0_join (ppD p) [.d (mon rd f V E), .d (mon rd f' V' E'), .d (kd k), .own (B.map vt), c4, c5, c6, c7, c8, c9] =
      .nx [.d (mon rd f V E), .d (mon rd f' V' E'), .d (kd k), .own ((B ++ [jv k (V.getD p.1 .sure) (V'.getD p.2 .sure)]).map vt), c4, c5, .d (nat p.1), .d (nat p.2), y8, y9] := by
  have v1 := verd_at (V := V) (a := p.1) (by rw [hm.ok.len]; exact hp.1)
  have v2 := verd_at (V := V') (a := p.2) (by rw [hm'.ok.len]; exact hp.2)
  have k1 := eqK1 k
  have k2 := eqKb k
  have lb : (B.map vt).length < 16777216 := by rw [List.length_map]; exact hB
  rw [turn_pp, List.map_append]
  generalize V.getD p.1 .sure = x at *
  generalize V'.getD p.2 .sure = y at *
  generalize B.map vt = B' at *
  refine ⟨.d (vt x), .d (vt y), ?_⟩
  cases k <;> simp -implicitDefEqProofs [l0_join, mon2, v1, v2, setR, k1, k2, both_v, one_v, told_v, jv, lb, -List.getD_eq_getElem?_getD]
end
end K89
namespace K89
open DL L2
open K88 (add1 seenGo num numGo num_map mem_seen idx_new seen_pre)
section
variable {rd : List D} {f f' w : Nat} {V V' : List Vd} {E E' : List (List Nat)}
theorem join_ok (k : Kd) (hm : Sm f V E w) (hm' : Sm f' V' E' w) (nn : E.length * E'.length ≤ 400) (hrd : rd.length = w) (hsh : PySem.SeqAt.shaped (.tuple rd) = true) :
    m_join [mon rd f V E, mon rd f' V' E', kd k] = m_reduce [mon rd 0 (jV k w f f' V V' E E') (prE w f f' E E')] := by
  have hp := pair_ok (rd := rd) hm hm' nn hrd hsh
  have ln := prs_len hm hm'
  have pin := prs_in hm hm'
  have le : (prE w f f' E E').length = (prs w f f' E E').length := List.length_map _
  have l0 : lstR (.ok []) = .ok (.own []) := lstR_ok (by decide)
  have w1 := hm.w1
  obtain ⟨e', h, hP⟩ := forD_ind (g := turnD (.tp [6, 7]) l0_join) (xs := (prs w f f' E E').map ppD) (e := [.d (mon rd f V E), .d (mon rd f' V' E'), .d (kd k), .own [], .d (.list ((prs w f f' E E').map ppD)), .d (.list ((prE w f f' E E').map stepD)), .un, .un, .un, .un])
    (P := fun i e => ∃ y6 y7 y8 y9, e = [.d (mon rd f V E), .d (mon rd f' V' E'), .d (kd k), .own ((((prs w f f' E E').take i).map fun p => jv k (V.getD p.1 .sure) (V'.getD p.2 .sure)).map vt), .d (.list ((prs w f f' E E').map ppD)), .d (.list ((prE w f f' E E').map stepD)), y6, y7, y8, y9])
    ⟨_, _, _, _, rfl⟩ (fun i x e hx hP => by
      obtain ⟨y6, y7, y8, y9, rfl⟩ := hP
      rw [List.getElem?_map, Option.map_eq_some_iff] at hx
      obtain ⟨p, hpx, rfl⟩ := hx
      have hi := (List.getElem?_eq_some_iff.mp hpx).1
      obtain ⟨z8, z9, q⟩ := jturn_ok (rd := rd) k hm hm' (pin p (List.mem_of_getElem? hpx)) (((prs w f f' E E').take i).map fun p => jv k (V.getD p.1 .sure) (V'.getD p.2 .sure)) (by rw [List.length_map, List.length_take]; omega) (.d (.list ((prs w f f' E E').map ppD))) (.d (.list ((prE w f f' E E').map stepD))) y6 y7 y8 y9
      exact ⟨_, q, _, _, z8, z9, by rw [take_get _ hpx]⟩)
  obtain ⟨y6, y7, y8, y9, rfl⟩ := hP
  rw [List.length_map, List.take_of_length_le (Nat.le_refl _)] at h
  have tr : tupleD (.d (.tuple rd)) = .ok (.d (.tuple rd)) := rfl
  have tv : tupleD (.own ((jV k w f f' V V' E E').map vt)) = .ok (.d (.tuple ((jV k w f f' V V' E E').map vt))) := rfl
  have te : tupleD (.d (.list ((prE w f f' E E').map stepD))) = .ok (.d (.tuple ((prE w f f' E E').map stepD))) := rfl
  have up : unpR [4, 5] [.d (mon rd f V E), .d (mon rd f' V' E'), .d (kd k), .un, .un, .un, .un, .un, .un, .un] (.d (.tuple [.list ((prs w f f' E E').map ppD), .list ((prE w f f' E E').map stepD)])) = .nx [.d (mon rd f V E), .d (mon rd f' V' E'), .d (kd k), .un, .d (.list ((prs w f f' E E').map ppD)), .d (.list ((prE w f f' E E').map stepD)), .un, .un, .un, .un] := rfl
  have h : forD (turnD (.tp [6, 7]) l0_join) ((prs w f f' E E').map ppD) [.d (mon rd f V E), .d (mon rd f' V' E'), .d (kd k), .own [], .d (.list ((prs w f f' E E').map ppD)), .d (.list ((prE w f f' E E').map stepD)), .un, .un, .un, .un] = .nx [.d (mon rd f V E), .d (mon rd f' V' E'), .d (kd k), .own ((jV k w f f' V V' E E').map vt), .d (.list ((prs w f f' E E').map ppD)), .d (.list ((prE w f f' E E').map stepD)), y6, y7, y8, y9] := h
  obtain ⟨kk, _, red⟩ := reduce_ok (rd := rd) (join_sm k hm hm' nn).ok (by omega)
  rw [red]
  generalize mon rd 0 (redV _ _ _) (redE _ _ _) = RM at *
  have em : mon rd 0 (jV k w f f' V V' E E') (prE w f f' E E') = .tuple [.tuple rd, .int 0, .tuple ((jV k w f f' V V' E E').map vt), .tuple ((prE w f f' E E').map stepD)] := by unfold mon; rfl
  rw [em] at red
  generalize jV k w f f' V V' E E' = JV at *
  generalize (prE w f f' E E').map stepD = JE at *
  unfold m_join runD g_join
  simp -implicitDefEqProofs [startD, hp, up, l0, setR, h, mon0, tr, tv, te, tup4, red, -List.map_map]
end
end K89
namespace K89
open DL L2
open K88 (add1 seenGo num numGo num_map mem_seen idx_new seen_pre)
section
variable {rd : List D} {f f' w : Nat} {V V' : List Vd} {E E' : List (List Nat)}
theorem jmturn_ok (c0 c3 : Cell) (hm : Sm f V E w) (hm' : Sm f' V' E' w) (hrd : rd.length = w) {p : Pr} (hp : p ∈ prs w f f' E E') (B : List D) (hB : B.length < 16777216) (c6 c7 c8 c9 c10 : Cell) :
    ∃ y7 y8 y9 y10, turnD (.tp [7, 8]) l0_law_joined_monitor (ppD p) [c0, .d (mon rd f V E), .d (mon rd f' V' E'), c3, .d (.list ((prs w f f' E E').map ppD)), .own B, c6, c7, c8, c9, c10] =
      .nx [c0, .d (mon rd f V E), .d (mon rd f' V' E'), c3, .d (.list ((prs w f f' E E').map ppD)), .own (B ++ [stepD ((succP w E E' p).map fun y => posOf (prs w f f' E E') y)]), c6, y7, y8, y9, y10] := by
  have pin := prs_in hm hm' p hp
  have w1 := hm.w1
  have s1 := step_at (E := E) pin.1
  have s2 := step_at (E := E') pin.2
  have lr : lenD (.d (.tuple rd)) = .ok (.d (.int (w : Int))) := by rw [← hrd]; rfl
  have r1 : rng1D (.d (.int (w : Int))) = .ok (nats (List.range w)) := rng_nats (by omega)
  have lx : lstC (.d (.list ((prs w f f' E E').map ppD))) = .ok (.d (.list ((prs w f f' E E').map ppD))) := rfl
  have key : ∀ j < w, ∃ x, tupR (.ok [PySem.PyData.int (((E.getD p.1 []).getD j 0 : Nat) : Int), .int (((E'.getD p.2 []).getD j 0 : Nat) : Int)]) = .ok (.d x) := fun j hj => ⟨_, tup2 _ _⟩
  rw [turn_pp]
  have lc : lcL (lcD ([10] : List Nat) (.nm 10) (fun en => (R.ok true)) (fun en => (((getC 4 en).bind lstC).bind fun x => (tupR (consR (((((getC 1 en).bind fun x => idxD x (.d (.int 3))).bind fun x => (getC 7 en).bind fun y => idxD x y).bind fun x => (getC 10 en).bind fun y => idxD x y).bind Cell.val) (consR (((((getC 2 en).bind fun x => idxD x (.d (.int 3))).bind fun x => (getC 8 en).bind fun y => idxD x y).bind fun x => (getC 10 en).bind fun y => idxD x y).bind Cell.val) (R.ok [])))).bind fun y => indexD x y)) (nats (List.range w)) [c0, .d (mon rd f V E), .d (mon rd f' V' E'), c3, .d (.list ((prs w f f' E E').map ppD)), .own B, c6, .d (nat p.1), .d (nat p.2), c9, c10])
      = .ok (.own ((List.range w).map fun j => nat (posOf (prs w f f' E E') ((E.getD p.1 []).getD j 0, (E'.getD p.2 []).getD j 0)))) := by
    refine lc_of (em := nat) (by rw [List.length_range]; omega) fun j hj => ?_
    have hj := List.mem_range.mp hj
    have iy := ir j w (E.getD p.1 []) (hm.wide _ pin.1) hj
    have iy' := ir j w (E'.getD p.2 []) (hm'.wide _ pin.2) hj
    have my : ((E.getD p.1 []).getD j 0, (E'.getD p.2 []).getD j 0) ∈ prs w f f' E E' := prs_cl hm hm' p hp _ (List.mem_map.mpr ⟨j, List.mem_range.mpr hj, rfl⟩)
    have ia : indexD (.d (.list ((prs w f f' E E').map ppD))) (.d (ppD ((E.getD p.1 []).getD j 0, (E'.getD p.2 []).getD j 0))) = .ok (.d (.int (posOf (prs w f f' E E') ((E.getD p.1 []).getD j 0, (E'.getD p.2 []).getD j 0) : Nat))) := index_at ppE (by decide) my
    generalize (E.getD p.1 []).getD j 0 = a at *
    generalize (E'.getD p.2 []).getD j 0 = b at *
    have tp : tupR (.ok [PySem.PyData.int (a : Int), .int (b : Int)]) = .ok (.d (ppD (a, b))) := tup2 _ _
    simp -implicitDefEqProofs [wipeC, mon3, s1, s2, iy, iy', tp, lx, ia, -List.getD_eq_getElem?_getD]
  have e1 : ((List.range w).map fun j => nat (posOf (prs w f f' E E') ((E.getD p.1 []).getD j 0, (E'.getD p.2 []).getD j 0))) = nats ((succP w E E' p).map fun y => posOf (prs w f f' E E') y) := by
    unfold succP nats
    rw [List.map_map, List.map_map]; rfl
  rw [e1] at lc
  have tt : tupleD (.own (nats ((succP w E E' p).map fun y => posOf (prs w f f' E E') y))) = .ok (.d (stepD ((succP w E E' p).map fun y => posOf (prs w f f' E E') y))) := rfl
  generalize (succP w E E' p).map (fun y => posOf (prs w f f' E E') y) = row at *
  refine ⟨.d (nat p.1), .d (nat p.2), c9, c10, ?_⟩
  simp -implicitDefEqProofs [l0_law_joined_monitor, mon0, lr, r1, lc, tt, hB, -List.getD_eq_getElem?_getD]
theorem joinm_ok (k : Kd) (hm : Sm f V E w) (hm' : Sm f' V' E' w) (nn : E.length * E'.length ≤ 400) (hrd : rd.length = w) :
    ∃ RM : D, m_law_smallest [mon rd 0 (jV k w f f' V V' E E') (prE w f f' E E')] = .ok (.d RM) ∧ m_law_joined_monitor [kd k, mon rd f V E, mon rd f' V' E'] = .ok (.d RM) := by
  have hb := both_ok (rd := rd) hm hm' nn hrd
  have ln := prs_len hm hm'
  have pin := prs_in hm hm'
  have w1 := hm.w1
  have l0 : lstR (.ok []) = .ok (.own []) := lstR_ok (by decide)
  obtain ⟨kk, hk, _⟩ := reduce_ok (rd := rd) (join_sm k hm hm' nn).ok (by omega)
  have sm := smallest_ok (rd := rd) (join_sm k hm hm' nn) (by omega) hk
  clear hk
  refine ⟨_, sm, ?_⟩
  generalize mon rd 0 (redV _ _ _) (redE _ _ _) = RM at *
  have em : mon rd 0 (jV k w f f' V V' E E') (prE w f f' E E') = .tuple [.tuple rd, .int 0, .tuple ((jV k w f f' V V' E E').map vt), .tuple ((prE w f f' E E').map stepD)] := by unfold mon; rfl
  rw [em] at sm
  have rl : (rws w f f' E E').length = (prs w f f' E E').length := by rw [← rws_fst, List.length_map]
  -- the pairs
  have i0 : ∀ q : Rw, idxD (.d (row3 q)) (.d (.int 0)) = .ok (.d (nat q.1.1)) := fun q => idx_tuple (k := 0) rfl
  have i1 : ∀ q : Rw, idxD (.d (row3 q)) (.d (.int 1)) = .ok (.d (nat q.1.2)) := fun q => idx_tuple (k := 1) rfl
  have prl : ∀ e : Env, e.length = 11 → lcL (lcD ([9] : List Nat) (.nm 9) (fun en => (R.ok true)) (fun en => (tupR (consR (((getC 9 en).bind fun x => idxD x (.d (.int 0))).bind Cell.val) (consR (((getC 9 en).bind fun x => idxD x (.d (.int 1))).bind Cell.val) (R.ok []))))) ((rws w f f' E E').map row3) e) = .ok (.own ((prs w f f' E E').map ppD)) := fun e he => by
    have e2 : (prs w f f' E E').map ppD = (rws w f f' E E').map fun q => ppD q.1 := by rw [← rws_fst, List.map_map]; rfl
    rw [e2]
    match e, he with
    | [a0, a1, a2, a3, a4, a5, a6, a7, a8, a9, a10], _ =>
      refine lc_of (em := row3) (by omega) fun q _ => ?_
      have tp : tupR (.ok [PySem.PyData.int (q.1.1 : Int), .int (q.1.2 : Int)]) = .ok (.d (ppD q.1)) := tup2 _ _
      have j0 := i0 q
      have j1 := i1 q
      simp -implicitDefEqProofs [wipeC, j0, j1, tp]
  -- the rows
  obtain ⟨e', h, hP⟩ := forD_ind (g := turnD (.tp [7, 8]) l0_law_joined_monitor) (xs := (prs w f f' E E').map ppD) (e := [.d (kd k), .d (mon rd f V E), .d (mon rd f' V' E'), .own ((rws w f f' E E').map row3), .d (.list ((prs w f f' E E').map ppD)), .own [], .un, .un, .un, .un, .un])
    (P := fun i e => ∃ y7 y8 y9 y10, e = [.d (kd k), .d (mon rd f V E), .d (mon rd f' V' E'), .own ((rws w f f' E E').map row3), .d (.list ((prs w f f' E E').map ppD)), .own (((prs w f f' E E').take i).map fun p => stepD ((succP w E E' p).map fun y => posOf (prs w f f' E E') y)), .un, y7, y8, y9, y10])
    ⟨_, _, _, _, rfl⟩ (fun i x e hx hP => by
      obtain ⟨y7, y8, y9, y10, rfl⟩ := hP
      rw [List.getElem?_map, Option.map_eq_some_iff] at hx
      obtain ⟨p, hpx, rfl⟩ := hx
      obtain ⟨z7, z8, z9, z10, q⟩ := jmturn_ok (rd := rd) (.d (kd k)) (.own ((rws w f f' E E').map row3)) hm hm' hrd (List.mem_of_getElem? hpx) (((prs w f f' E E').take i).map fun p => stepD ((succP w E E' p).map fun y => posOf (prs w f f' E E') y)) (by rw [List.length_map, List.length_take]; omega) .un y7 y8 y9 y10
      exact ⟨_, q, z7, z8, z9, z10, by rw [take_get _ hpx]⟩)
  obtain ⟨y7, y8, y9, y10, rfl⟩ := hP
  rw [List.length_map, List.take_of_length_le (Nat.le_refl _)] at h
  have eE : ((prs w f f' E E').map fun p => stepD ((succP w E E' p).map fun y => posOf (prs w f f' E E') y)) = (prE w f f' E E').map stepD := by unfold prE; rw [List.map_map]; rfl
  rw [eE] at h
  -- the verdicts
  have vl : ∀ c3 c5 c6 c7 c8 c9 c10 : Cell, lcL (lcD ([7, 8] : List Nat) (.tp [7, 8]) (fun en => (R.ok true)) (fun en => ((consR ((getC 0 en).bind Cell.val) (consR ((((getC 1 en).bind fun x => idxD x (.d (.int 2))).bind fun x => (getC 7 en).bind fun y => idxD x y).bind Cell.val) (consR ((((getC 2 en).bind fun x => idxD x (.d (.int 2))).bind fun x => (getC 8 en).bind fun y => idxD x y).bind Cell.val) (R.ok [])))).bind (m_law_joined_verdict 2))) ((prs w f f' E E').map ppD) [.d (kd k), .d (mon rd f V E), .d (mon rd f' V' E'), c3, .d (.list ((prs w f f' E E').map ppD)), c5, c6, c7, c8, c9, c10]) = .ok (.own ((jV k w f f' V V' E E').map vt)) := fun c3 c5 c6 c7 c8 c9 c10 => by
    have e2 : (jV k w f f' V V' E E').map vt = (prs w f f' E E').map fun p => vt (jv k (V.getD p.1 .sure) (V'.getD p.2 .sure)) := by unfold jV; rw [List.map_map]; rfl
    rw [e2]
    refine lc_pp (by omega) fun p hp => ?_
    have v1 := verd_at (V := V) (a := p.1) (by rw [hm.ok.len]; exact (pin p hp).1)
    have v2 := verd_at (V := V') (a := p.2) (by rw [hm'.ok.len]; exact (pin p hp).2)
    have j := joined_v k (V.getD p.1 .sure) (V'.getD p.2 .sure)
    simp -implicitDefEqProofs [wipeC, mon2, v1, v2, j, -List.getD_eq_getElem?_getD]
  have vl' := vl (.own ((rws w f f' E E').map row3)) (.own ((prE w f f' E E').map stepD)) .un y7 y8 y9 y10
  have tr : tupleD (.d (.tuple rd)) = .ok (.d (.tuple rd)) := rfl
  have tv : tupleD (.own ((jV k w f f' V V' E E').map vt)) = .ok (.d (.tuple ((jV k w f f' V V' E E').map vt))) := rfl
  have te : tupleD (.own ((prE w f f' E E').map stepD)) = .ok (.d (.tuple ((prE w f f' E E').map stepD))) := rfl
  have prl' := prl [.d (kd k), .d (mon rd f V E), .d (mon rd f' V' E'), .own ((rws w f f' E E').map row3), .un, .un, .un, .un, .un, .un, .un] rfl
  generalize (jV k w f f' V V' E E').map vt = JV at *
  generalize (prE w f f' E E').map stepD = JE at *
  generalize (prs w f f' E E').map ppD = PP at *
  generalize (rws w f f' E E').map row3 = RR at *
  unfold m_law_joined_monitor runD g_law_joined_monitor
  simp -implicitDefEqProofs [startD, hb, l0, setR, freezeAll, prl', h, vl', mon0, tr, tv, te, tup4, sm, -List.map_map]
end
end K89
/-! ## law k89: a reduced monitor is its own reduction -/
namespace K89
open DL L2
open K88 (add1 seenGo num numGo num_map mem_seen idx_new seen_pre RG cnt num_rg rg_lt firsts fstStep firsts_succ rg_snoc rg_take firsts_len firsts_le firsts_get take_snoc cnt_le)
theorem add1_range {q g : Nat} (h : g ≤ q) : add1 (List.range q) g = List.range (if g = q then q + 1 else q) := by
  by_cases e : g = q
  · subst e
    rw [if_pos rfl, add1_new (by simp), List.range_succ]
  · rw [if_neg e, add1_old (by simp; omega)]
theorem take_mem {G : List Nat} {i l : Nat} (hi : i < l) (hl : l ≤ G.length) : G.getD i 0 ∈ G.take l := by
  refine List.mem_of_getElem? (i := i) ?_
  rw [List.getElem?_take_of_lt hi]
  exact get_D (by omega)
/-- first appearances keep their order -/
theorem seen_classes {P G : List Nat} (hG : RG 0 G) (hl : G.length = P.length) (nd : P.Nodup) : ∀ (xs L t : List Nat), P = seenGo L xs ++ t →
    seenGo (List.range (cnt 0 (G.take L.length))) (xs.map fun y => G.getD (P.idxOf y) 0) = List.range (cnt 0 (G.take (seenGo L xs).length))
  | [], _, _, _ => rfl
  | y :: xs, L, t, h => by
    have h : P = seenGo (add1 L y) xs ++ t := h
    obtain ⟨u, eu⟩ := seen_pre xs (add1 L y)
    have ih := seen_classes hG hl nd xs (add1 L y) t h
    show seenGo (add1 (List.range (cnt 0 (G.take L.length))) (G.getD (P.idxOf y) 0)) (xs.map fun y => G.getD (P.idxOf y) 0) = List.range (cnt 0 (G.take (seenGo (add1 L y) xs).length))
    rw [← ih]
    congr 1
    have hp : P = add1 L y ++ (u ++ t) := by rw [h, eu, List.append_assoc]
    have lp := congrArg List.length hp
    rw [List.length_append] at lp
    by_cases m : y ∈ L
    · rw [add1_old m] at hp lp ⊢
      have ix : P.idxOf y < L.length := by rw [hp, List.idxOf_append, if_pos m]; exact List.idxOf_lt_length_of_mem m
      refine add1_old (List.mem_range.mpr (rg_lt _ 0 (rg_take hG _ (by omega)) _ (take_mem ix (by omega))))
    · rw [add1_new m] at hp lp ⊢
      rw [List.length_append, List.length_singleton] at lp ⊢
      have ix : P.idxOf y = L.length := idx_get nd (by rw [hp, List.append_assoc, List.getElem?_append_right (Nat.le_refl _), Nat.sub_self]; rfl)
      have t1 := rg_take hG (L.length + 1) (by omega)
      have ts := take_snoc (G := G) (n := L.length) (by omega)
      rw [ts] at t1
      obtain ⟨s1, s2, _⟩ := rg_snoc _ _ _ t1
      rw [ix, ts, s2]
      exact add1_range s1
theorem cnt_take_le {G : List Nat} (hG : RG 0 G) : ∀ {i j : Nat}, i ≤ j → j ≤ G.length → cnt 0 (G.take i) ≤ cnt 0 (G.take j) := by
  intro i j h
  induction h with
  | refl => exact fun _ => Nat.le_refl _
  | step h ih =>
    rename_i j
    intro hl
    have a := ih (by omega)
    have t := rg_take hG (j + 1) hl
    rw [take_snoc (by omega)] at t ⊢
    have := (rg_snoc _ _ _ t).2.1
    rw [this]
    split <;> omega
theorem seen_old {q : Nat} : ∀ (xs : List Nat), (∀ x ∈ xs, x < q) → seenGo (List.range q) xs = List.range q
  | [], _ => rfl
  | x :: xs, h => by
    show seenGo (add1 (List.range q) x) xs = _
    rw [add1_old (List.mem_range.mpr (h x List.mem_cons_self))]
    exact seen_old xs fun y hy => h y (List.mem_cons_of_mem _ hy)
/-- the walk of the classes -/
theorem quot_walk {succ : Nat → List Nat} {s2 : Nat → List Nat} {P G : List Nat} (hG : RG 0 G) (hl : G.length = P.length) (nd : P.Nodup)
    (hs : ∀ i < P.length, s2 (G.getD i 0) = (succ (P.getD i 0)).map fun y => G.getD (P.idxOf y) 0) :
    ∀ (m k m2 : Nat) (L : List Nat), bfs succ m k L = P → k ≤ L.length → P.length ≤ k + m → cnt 0 G ≤ cnt 0 (G.take k) + m2 →
      (∀ g < cnt 0 (G.take k), ∀ y ∈ s2 g, y < cnt 0 (G.take L.length)) → bfs s2 m2 (cnt 0 (G.take k)) (List.range (cnt 0 (G.take L.length))) = List.range (cnt 0 G) := by
  have last : ∀ (k m2 : Nat) (L : List Nat), L = P → k = L.length → bfs s2 m2 (cnt 0 (G.take k)) (List.range (cnt 0 (G.take L.length))) = List.range (cnt 0 G) := fun k m2 L e1 e2 => by
    subst e1
    rw [e2, List.take_of_length_le (by omega), bfs_stop (by simp)]
  intro m
  induction m with
  | zero =>
    intro k m2 L hb hk hp _ _
    have e : L = P := hb
    refine last k m2 L e ?_
    rw [e] at hk ⊢
    omega
  | succ m ih =>
    intro k m2 L hb hk hp h2 inv
    cases q : L[k]? with
    | none =>
      have lk := List.getElem?_eq_none_iff.mp q
      have e : L = P := by rw [← hb, bfs_stop lk]
      exact last k m2 L e (by omega)
    | some x =>
      have kl := (List.getElem?_eq_some_iff.mp q).1
      rw [bfs_step q] at hb
      obtain ⟨t, et⟩ := bfs_pre (succ := succ) m (k + 1) (seenGo L (succ x))
      have hP : P = seenGo L (succ x) ++ t := by rw [← hb, et]
      obtain ⟨u, eu⟩ := seen_pre (succ x) L
      have hPL : P = L ++ (u ++ t) := by rw [hP, eu, List.append_assoc]
      have lP := congrArg List.length hPL
      have lP2 := congrArg List.length hP
      rw [List.length_append] at lP lP2
      have ll : L.length ≤ (seenGo L (succ x)).length := by rw [eu, List.length_append]; omega
      have px : P.getD k 0 = x := getD_of (by rw [hPL, List.getElem?_append_left kl]; exact q)
      have cl := seen_classes hG hl nd (succ x) L t hP
      have step := hs k (by omega)
      rw [px] at step
      rw [← step] at cl
      have tk := rg_take hG (k + 1) (by omega)
      have ts := take_snoc (G := G) (n := k) (by omega)
      rw [ts] at tk
      obtain ⟨a1, a2, _⟩ := rg_snoc _ _ _ tk
      rw [← ts] at a2
      by_cases e : G.getD k 0 = cnt 0 (G.take k)
      · -- a new class
        rw [if_pos e] at a2
        have lt : cnt 0 (G.take k) < cnt 0 (G.take L.length) := by
          have := cnt_take_le hG (i := k + 1) (j := L.length) (by omega) (by omega)
          omega
        have le : cnt 0 (G.take L.length) ≤ cnt 0 G := by
          have := cnt_take_le hG (i := L.length) (j := G.length) (by omega) (Nat.le_refl _)
          rwa [List.take_of_length_le (Nat.le_refl _)] at this
        obtain ⟨m3, rfl⟩ : ∃ m3, m2 = m3 + 1 := ⟨m2 - 1, by omega⟩
        rw [bfs_step (x := cnt 0 (G.take k)) (List.getElem?_range lt), ← e, cl, e, ← a2]
        refine ih (k + 1) m3 _ hb (by omega) (by omega) (by omega) fun g hg y hy => ?_
        rcases Nat.lt_or_ge g (cnt 0 (G.take k)) with l | l
        · have := inv g l y hy
          have := cnt_take_le hG ll (by omega)
          omega
        · have eg : g = G.getD k 0 := by omega
          subst eg
          have : y ∈ seenGo (List.range (cnt 0 (G.take L.length))) (s2 (G.getD k 0)) := (mem_seenGo _ _ _).mpr (.inr hy)
          rw [cl] at this
          exact List.mem_range.mp this
      · -- an old one
        rw [if_neg e] at a2
        have old := seen_old (s2 (G.getD k 0)) (inv (G.getD k 0) (by omega))
        rw [old] at cl
        have ec := congrArg List.length cl
        rw [List.length_range, List.length_range] at ec
        rw [ec, ← a2]
        refine ih (k + 1) m2 _ hb (by omega) (by omega) (by omega) fun g hg y hy => ?_
        rw [← ec]
        exact inv g (by omega) y hy
/-! ### the reduced one, by classes -/
/-- what stands for a class -/
theorem first_of {G : List Nat} (hG : RG 0 G) {c : Nat} (hc : c < (firsts G G.length).length) : ∃ a, (firsts G G.length)[c]? = some a ∧ a < G.length ∧ G.getD a 0 = c := by
  have q := List.getElem?_eq_getElem hc
  obtain ⟨e, l⟩ := firsts_get _ _ _ q
  exact ⟨_, q, l, e⟩
theorem firsts_n {G : List Nat} (hG : RG 0 G) : (firsts G G.length).length = cnt 0 G := by
  rw [firsts_len hG _ (Nat.le_refl _), List.take_of_length_le (Nat.le_refl _)]
theorem class_lt {G : List Nat} (hG : RG 0 G) {i : Nat} (hi : i < G.length) : G.getD i 0 < (firsts G G.length).length := by
  rw [firsts_n hG]
  exact rg_lt _ 0 hG _ (getD_mem hi)
theorem rg_self : ∀ (G : List Nat) (m : Nat), RG m G → (∀ i < G.length, ∀ j < G.length, G.getD i 0 = G.getD j 0 → i = j) → (∀ g ∈ G, m ≤ g) → G = (List.range G.length).map (m + ·)
  | [], _, _, _, _ => rfl
  | g :: gs, m, h, inj, low => by
    have g0 := low g List.mem_cons_self
    rcases h with ⟨h1, _⟩ | ⟨h1, h2⟩
    · omega
    · subst h1
      have ih := rg_self gs (g + 1) h2 (fun i hi j hj e => by
        have := inj (i + 1) (by simp; omega) (j + 1) (by simp; omega) e
        omega) (fun x hx => by
        have l := low x (List.mem_cons_of_mem _ hx)
        obtain ⟨i, hi⟩ := List.getElem?_of_mem hx
        have li := (List.getElem?_eq_some_iff.mp hi).1
        rcases Nat.lt_or_ge g x with z | z
        · exact z
        · have e : x = g := by omega
          subst e
          have := inj 0 (by simp) (i + 1) (by simp; omega) (getD_of (l := gs) hi).symm
          omega)
      rw [List.length_cons, List.range_succ_eq_map, List.map_cons, List.map_map]
      show g :: gs = (g + 0) :: _
      rw [Nat.add_zero]
      congr 1
      rw [ih, List.length_map, List.length_range]
      exact List.map_congr_left fun i _ => by show g + 1 + i = g + (i + 1); omega
section
variable {W : List Vd} {F : List (List Nat)} {k : Nat}
theorem red_class (hl : W.length = F.length) (hk : dgr W F (k + 1) = dgr W F k) {G : List Nat} (eG : dgr W F k = G) :
    ∀ i < G.length, ((firsts G G.length).map fun a => W.getD a .sure).getD (G.getD i 0) .sure = W.getD i .sure ∧ ((firsts G G.length).map fun a => gOf G (F.getD a [])).getD (G.getD i 0) [] = gOf G (F.getD i []) := by
  intro i hi
  have hG : RG 0 G := by rw [← eG]; exact dgr_rg k
  have lG : G.length = F.length := by rw [← eG]; exact dgr_len hl k
  obtain ⟨a, ha, la, ga⟩ := first_of hG (class_lt hG hi)
  have S := dgr_stab hl hk
  rw [eG] at S
  have e1 := S.lab a (by omega) i (by omega) ga
  have e2 := S.len a (by omega) i (by omega) ga
  have e3 := S.nxt a (by omega) i (by omega) ga
  constructor
  · rw [List.getD_eq_getElem?_getD, List.getElem?_map, ha, Option.map_some, Option.getD_some, List.getD_eq_getElem?_getD, List.getD_eq_getElem?_getD, e1]
  · rw [List.getD_eq_getElem?_getD, List.getElem?_map, ha, Option.map_some, Option.getD_some]
    unfold gOf
    apply List.ext_getElem
    · rw [List.length_map, List.length_map, e2]
    · intro j h1 h2
      rw [List.length_map] at h1 h2
      rw [List.getElem_map, List.getElem_map]
      have := e3 j h1
      rw [List.getD_eq_getElem?_getD (l := F.getD a []), List.getElem?_eq_getElem h1, List.getD_eq_getElem?_getD (l := F.getD i []), List.getElem?_eq_getElem h2] at this
      exact this
end
section
variable {W : List Vd} {F : List (List Nat)} {k : Nat}
theorem gOf_at {G r : List Nat} {j : Nat} (h : j < r.length) : (gOf G r).getD j 0 = G.getD (r.getD j 0) 0 := by
  unfold gOf
  rw [List.getD_eq_getElem?_getD, List.getElem?_map, List.getElem?_eq_getElem h, List.getD_eq_getElem?_getD (l := r), List.getElem?_eq_getElem h]; rfl
theorem red_sep (hl : W.length = F.length) (hk : dgr W F (k + 1) = dgr W F k) {G : List Nat} (eG : dgr W F k = G) (hi : ∀ a < F.length, ∀ c ∈ F.getD a [], c < F.length) {V2 : List Vd} {E2 : List (List Nat)}
    (e1 : V2 = (firsts G G.length).map fun a => W.getD a .sure) (e2 : E2 = (firsts G G.length).map fun a => gOf G (F.getD a [])) {k2 : Nat} (h2 : dgr V2 E2 (k2 + 1) = dgr V2 E2 k2) : dgr V2 E2 k2 = List.range (firsts G G.length).length := by
  have rc := red_class hl hk eG
  rw [← e1, ← e2] at rc
  have hG : RG 0 G := by rw [← eG]; exact dgr_rg k
  have lG : G.length = F.length := by rw [← eG]; exact dgr_len hl k
  have lV : V2.length = (firsts G G.length).length := by rw [e1, List.length_map]
  have lE : E2.length = (firsts G G.length).length := by rw [e2, List.length_map]
  have l2 : V2.length = E2.length := by rw [lV, lE]
  have S := dgr_stab l2 h2
  have lG2 : (dgr V2 E2 k2).length = (firsts G G.length).length := (dgr_len l2 k2).trans lE
  have rg2 : RG 0 (dgr V2 E2 k2) := dgr_rg k2
  generalize dgr V2 E2 k2 = G2 at *
  have cl : ∀ i < F.length, G.getD i 0 < V2.length := fun i h => by rw [lV]; exact class_lt hG (by omega)
  have R : Stab W F fun i j => G2.getD (G.getD i 0) 0 = G2.getD (G.getD j 0) 0 := by
    refine ⟨fun a ha b hb r => ?_, fun a ha b hb r => ?_, fun a ha b hb r j hj => ?_⟩
    · have := S.lab _ (cl a (by omega)) _ (cl b (by omega)) r
      have ea := (rc a (by omega)).1
      have eb := (rc b (by omega)).1
      rw [List.getD_eq_getElem?_getD, this, ← List.getD_eq_getElem?_getD, eb] at ea
      rw [get_D (z := Vd.sure) ha, get_D (z := Vd.sure) hb, ea]
    · have := S.len _ (cl a (by omega)) _ (cl b (by omega)) r
      rw [(rc a (by omega)).2, (rc b (by omega)).2] at this
      simpa [gOf] using this
    · have hl2 := S.len _ (cl a (by omega)) _ (cl b (by omega)) r
      have this := S.nxt _ (cl a (by omega)) _ (cl b (by omega)) r j (by rw [(rc a (by omega)).2]; unfold gOf; rw [List.length_map]; exact hj)
      rw [(rc a (by omega)).2, (rc b (by omega)).2] at this hl2
      have hj2 : j < (F.getD b []).length := by
        unfold gOf at hl2
        rw [List.length_map, List.length_map] at hl2
        omega
      rw [gOf_at hj, gOf_at hj2] at this
      exact this
  have inj : ∀ a < G2.length, ∀ b < G2.length, G2.getD a 0 = G2.getD b 0 → a = b := fun a ha b hb e => by
    obtain ⟨i, _, li, gi⟩ := first_of hG (c := a) (by omega)
    obtain ⟨j, _, lj, gj⟩ := first_of hG (c := b) (by omega)
    have := coarsest hl hi R k i (by omega) j (by omega) (by rw [gi, gj]; exact e)
    rw [eG, gi, gj] at this
    exact this
  have := rg_self G2 0 rg2 inj fun _ _ => Nat.zero_le _
  rw [this, lG2]
  have z : (fun x : Nat => 0 + x) = id := by funext x; simp
  rw [z, List.map_id]
end
theorem range_getD {n i : Nat} (h : i < n) : (List.range n).getD i 0 = i := getD_of (List.getElem?_range h)
theorem map_self {α : Type} (l : List α) (z : α) : ((List.range l.length).map fun i => l.getD i z) = l := by
  apply List.ext_getElem
  · simp
  · intro i h1 h2
    simp [List.getD_eq_getElem?_getD, h2]
theorem idx_range {n c : Nat} (h : c < n) : (List.range n).idxOf c = c := idx_get List.nodup_range (List.getElem?_range h)
theorem gOf_range {n : Nat} {r : List Nat} (h : ∀ c ∈ r, c < n) : gOf (List.range n) r = r := by
  unfold gOf
  have : (r.map fun c => (List.range n).getD c 0) = r.map id := List.map_congr_left fun c hc => range_getD (h c hc)
  rw [this, List.map_id]
theorem firsts_range (n : Nat) : ∀ m, m ≤ n → firsts (List.range n) m = List.range m
  | 0, _ => rfl
  | m + 1, h => by
    rw [firsts_succ, firsts_range n m (by omega), fstStep, range_getD (by omega), List.length_range, if_pos rfl, List.range_succ]
theorem redV_range (V : List Vd) : redV V (List.range V.length) (List.range V.length) = V := by
  unfold redV
  rw [List.length_range, firsts_range _ _ (Nat.le_refl _)]
  refine Eq.trans (List.map_congr_left fun p hp => ?_) (map_self V Vd.sure)
  rw [range_getD (List.mem_range.mp hp)]
theorem redE_range (E : List (List Nat)) (hs : subE E (List.range E.length) = E) (hr : ∀ a < E.length, ∀ c ∈ E.getD a [], c < E.length) : redE E (List.range E.length) (List.range E.length) = E := by
  unfold redE
  rw [hs, List.length_range, firsts_range _ _ (Nat.le_refl _)]
  exact Eq.trans (List.map_congr_left fun p hp => gOf_range (hr p (List.mem_range.mp hp))) (map_self E [])
section
variable {rd : List D} {f w : Nat} {V : List Vd} {E : List (List Nat)}
theorem red_red (hm : Sm f V E w) (hrd : rd.length ≤ 1000) {k : Nat} (hk : dgr (sub V .sure (reach f E)) (subE E (reach f E)) (k + 1) = dgr (sub V .sure (reach f E)) (subE E (reach f E)) k) {G : List Nat} (eG : dgr (sub V .sure (reach f E)) (subE E (reach f E)) k = G) :
    Sm 0 (redV V (reach f E) G) (redE E (reach f E) G) w ∧ (redE E (reach f E) G).length ≤ E.length ∧ m_reduce [mon rd 0 (redV V (reach f E) G) (redE E (reach f E) G)] = .ok (.d (mon rd 0 (redV V (reach f E) G) (redE E (reach f E) G))) := by
  have hP := reach_part hm.ok
  have lW : (sub V .sure (reach f E)).length = (reach f E).length := List.length_map _
  have lF : (subE E (reach f E)).length = (reach f E).length := List.length_map _
  have hl : (sub V .sure (reach f E)).length = (subE E (reach f E)).length := by rw [lW, lF]
  have hG : RG 0 G := by rw [← eG]; exact dgr_rg k
  have lG : G.length = (reach f E).length := by rw [← eG]; exact (dgr_len hl k).trans lF
  have Plen : (reach f E).length ≤ E.length := by
    have := nodup_len _ (List.range E.length) hP.nd fun p hp => List.mem_range.mpr (by rw [← hm.ok.len]; exact hP.lt p hp)
    rw [List.length_range] at this
    exact this
  have n4 := hm.n4
  have Fin : ∀ a < (subE E (reach f E)).length, ∀ c ∈ (subE E (reach f E)).getD a [], c < (subE E (reach f E)).length := fun a ha c hc => subE_in hP a ha c hc
  have e1 : redV V (reach f E) G = (firsts G G.length).map fun a => (sub V .sure (reach f E)).getD a .sure := by
    unfold redV
    rw [lG]
    refine List.map_congr_left fun a ha => ?_
    obtain ⟨j, hj⟩ := List.getElem?_of_mem ha
    have la := (firsts_get _ _ _ hj).2
    unfold sub
    rw [List.getD_eq_getElem?_getD (l := (reach f E).map _), List.getElem?_map, get_D (z := 0) la]; rfl
  have e2 : redE E (reach f E) G = (firsts G G.length).map fun a => gOf G ((subE E (reach f E)).getD a []) := by
    unfold redE
    rw [lG]
  have rc := red_class hl hk eG
  rw [← e1, ← e2] at rc
  have sep := fun {k2 : Nat} => red_sep hl hk eG Fin e1 e2 (k2 := k2)
  have nC := firsts_n hG
  have cl := fun {i : Nat} (h : i < G.length) => class_lt hG h
  have pos : 0 < (reach f E).length := List.length_pos_of_mem (reach_in f E)
  have n0 : 0 < (firsts G G.length).length := Nat.lt_of_le_of_lt (Nat.zero_le _) (cl (i := 0) (by omega))
  have nle : (firsts G G.length).length ≤ (reach f E).length := by rw [← lG]; exact firsts_le_n _
  have lV : (redV V (reach f E) G).length = (firsts G G.length).length := by rw [e1, List.length_map]
  have lE : (redE E (reach f E) G).length = (firsts G G.length).length := by rw [e2, List.length_map]
  -- the rows
  have rows : ∀ c < (redE E (reach f E) G).length, ((redE E (reach f E) G).getD c []).length = w ∧ ∀ y ∈ (redE E (reach f E) G).getD c [], y < (redE E (reach f E) G).length := fun c hc => by
    obtain ⟨a, _, la, ga⟩ := first_of hG (c := c) (by omega)
    have r := (rc a la).2
    rw [ga] at r
    rw [r]
    have lap : a < (reach f E).length := by omega
    constructor
    · unfold gOf
      rw [List.length_map, subE_get lap, List.length_map]
      exact hm.wide _ (by rw [← hm.ok.len]; exact hP.lt _ (getD_mem lap))
    · intro y hy
      unfold gOf at hy
      obtain ⟨d, hd, rfl⟩ := List.mem_map.mp hy
      rw [lE]
      exact cl (by have := Fin a (by omega) d hd; omega)
  have sm : Sm 0 (redV V (reach f E) G) (redE E (reach f E) G) w := ⟨⟨by rw [lV, lE], by rw [lE]; exact n0, by rw [lE]; omega, fun a ha => ⟨by rw [(rows a ha).1]; exact hm.w1, (rows a ha).2⟩⟩, by rw [lE]; omega, fun a ha => (rows a ha).1, hm.w1⟩
  refine ⟨sm, by rw [lE]; omega, ?_⟩
  -- its walk
  have walk : reach 0 (redE E (reach f E) G) = List.range (firsts G G.length).length := by
    have g0 : G.take 1 = [0] := by
      have l0 : 0 < G.length := by omega
      have := class_lt hG l0
      cases G with
      | nil => cases l0
      | cons g gs =>
        rcases hG with ⟨h, _⟩ | ⟨h, _⟩
        · omega
        · rw [h]; rfl
    have qw := quot_walk (succ := fun p => E.getD p []) (s2 := fun c => (redE E (reach f E) G).getD c []) hG lG hP.nd (fun i hi => by
      rw [(rc i (by omega)).2, subE_get hi]
      unfold gOf
      rw [List.map_map]; rfl) E.length 0 (redE E (reach f E) G).length [f] rfl (Nat.zero_le _) (by omega) (by rw [lE, nC]; omega) (fun g hg => by
        have hg : g < 0 := hg
        omega)
    have c1 : cnt 0 (G.take [f].length) = 1 := by
      show cnt 0 (G.take 1) = 1
      rw [g0]; rfl
    rw [c1] at qw
    rw [nC]
    exact qw
  have s1 : sub (redV V (reach f E) G) Vd.sure (List.range (firsts G G.length).length) = redV V (reach f E) G := by
    unfold sub
    rw [← lV]
    exact map_self _ _
  have s2 : subE (redE E (reach f E) G) (List.range (firsts G G.length).length) = redE E (reach f E) G := by
    have m := map_self (redE E (reach f E) G) []
    unfold subE
    rw [← lE]
    refine Eq.trans (List.map_congr_left fun p hp => ?_) m
    have hp := List.mem_range.mp hp
    have : (((redE E (reach f E) G).getD p []).map fun c => (List.range (redE E (reach f E) G).length).idxOf c) = ((redE E (reach f E) G).getD p []).map id := List.map_congr_left fun c hc => idx_range ((rows p hp).2 c hc)
    rw [this, List.map_id]
  obtain ⟨k2, h2, red⟩ := reduce_ok (rd := rd) sm.ok hrd
  rw [walk, s1, s2] at h2 red
  rw [sep h2] at red
  rw [red]
  have v := redV_range (redV V (reach f E) G)
  have e := redE_range (redE E (reach f E) G) (by rw [lE]; exact s2) fun a ha => (rows a ha).2
  rw [lV] at v
  rw [lE] at e
  rw [v, e]
end
end K89
namespace K89
open DL L2
/-! ### a value is alike itself -/
mutual
def slim : D → Bool
  | .none | .bool _ | .int _ | .str _ => true
  | .list xs => decide (xs.length ≤ 100000) && slimAll xs
  | .tuple xs => decide (xs.length ≤ 100000) && slimAll xs
  | .dict _ => false
def slimAll : List D → Bool
  | [] => true
  | x :: xs => slim x && slimAll xs
end
theorem slim_mem : ∀ (xs : List D) (x : D), slimAll xs = true → x ∈ xs → slim x = true
  | y :: r, x, h, hx => by
    have h' := Bool.and_eq_true_iff.mp (show (slim y && slimAll r) = true from h)
    rcases List.mem_cons.mp hx with rfl | hx'
    · exact h'.1
    · exact slim_mem r x h'.2 hx'
theorem leaf_eq {x : D} (h : x.canLay0 = true) (h2 : x.depth = 0) : eqD (.d x) (.d x) = .ok (.d (.bool true)) := by
  have hs : PySem.SeqAt.shaped x = true := by
    unfold PySem.SeqAt.shaped
    rw [h, h2]; rfl
  rw [eqD_ok hs hs, PySem.SeqAt.eqv_refl x h]
theorem len_ne {n : Nat} : neD (.d (.int (n : Int))) (.d (.int (n : Int))) = .ok (.d (.bool false)) := by
  rw [neD_ok rfl rfl, PySem.SeqAt.eqv_refl _ rfl]; rfl
theorem alike_items {rec : List D → R Cell} {xs : List D} {c0 c1 : D} {x2 : Cell} (hi : ∀ (i : Nat) (x : D), xs[i]? = some x → idxD (.d c0) (.d (.int (i : Int))) = .ok (.d x) ∧ idxD (.d c1) (.d (.int (i : Int))) = .ok (.d x)) (hr : ∀ x ∈ xs, rec [x, x] = .ok (.d (.bool true))) : ∃ y2, forD (turnD (.nm 2) (l0_law_alike rec)) (upFrom 0 xs.length) [.d c0, .d c1, x2] = .nx [.d c0, .d c1, y2] := by
  obtain ⟨e', f1, f2⟩ := forD_ind (g := turnD (.nm 2) (l0_law_alike rec)) (xs := upFrom 0 xs.length) (e := [.d c0, .d c1, x2]) (P := fun i e => ∃ y2, e = [.d c0, .d c1, y2]) ⟨x2, rfl⟩ (fun i x e hx hP => by
    obtain ⟨y2, rfl⟩ := hP
    obtain ⟨li, rfl⟩ := upz_get hx
    have hx' : xs[i]? = some xs[i] := List.getElem?_eq_getElem li
    obtain ⟨j0, j1⟩ := hi i _ hx'
    have hr' := hr _ (List.getElem_mem li)
    refine ⟨[.d c0, .d c1, .d (.int (i : Int))], ?_, _, rfl⟩
    simp -implicitDefEqProofs [l0_law_alike, j0, j1, hr'])
  obtain ⟨y2, rfl⟩ := f2
  exact ⟨y2, f1⟩
theorem alike_same : ∀ (n : Nat) (x : D), x.canLay0 = true → slim x = true → x.depth < n → m_law_alike n [x, x] = .ok (.d (.bool true)) := by
  intro n
  induction n with
  | zero => exact fun x _ _ h => absurd h (Nat.not_lt_zero _)
  | succ n ih =>
    intro x hc hs hd
    show runD 3 2 (g_law_alike (m_law_alike n)) [x, x] = _
    unfold runD g_law_alike
    cases x with
    | none => simp -implicitDefEqProofs [startD]
    | bool b => simp -implicitDefEqProofs [startD, isiD, leaf_eq hc rfl]
    | int i => simp -implicitDefEqProofs [startD, isiD, leaf_eq hc rfl]
    | str s => simp -implicitDefEqProofs [startD, isiD, leaf_eq hc rfl]
    | dict kvs => exact absurd hc (by intro h; cases h)
    | list xs =>
      have hs' := Bool.and_eq_true_iff.mp (show (decide (xs.length ≤ 100000) && slimAll xs) = true from hs)
      have hl := of_decide_eq_true hs'.1
      have hd' : PySem.PyData.depthAll xs + 1 < n + 1 := hd
      obtain ⟨y2, hf⟩ := alike_items (rec := m_law_alike n) (xs := xs) (c0 := .list xs) (c1 := .list xs) (x2 := .un) (fun i x h => ⟨idx_list h, idx_list h⟩) (fun x hx => ih x (PySem.PyData.canLay0_of_mem xs x hc hx) (slim_mem xs x hs'.2 hx) (by have := PySem.PyData.depth_le_depthAll xs x hx; omega))
      have r1 := rng1_nat (n := xs.length) (by omega)
      simp -implicitDefEqProofs [startD, isiD, len_ne, r1, hf]
    | tuple xs =>
      have hs' := Bool.and_eq_true_iff.mp (show (decide (xs.length ≤ 100000) && slimAll xs) = true from hs)
      have hl := of_decide_eq_true hs'.1
      have hd' : PySem.PyData.depthAll xs + 1 < n + 1 := hd
      obtain ⟨y2, hf⟩ := alike_items (rec := m_law_alike n) (xs := xs) (c0 := .tuple xs) (c1 := .tuple xs) (x2 := .un) (fun i x h => ⟨idx_tuple h, idx_tuple h⟩) (fun x hx => ih x (PySem.PyData.canLay0_of_mem xs x hc hx) (slim_mem xs x hs'.2 hx) (by have := PySem.PyData.depth_le_depthAll xs x hx; omega))
      have r1 := rng1_nat (n := xs.length) (by omega)
      simp -implicitDefEqProofs [startD, isiD, len_ne, r1, hf]
end K89
namespace K89
open DL L2
/-! ### join_all, opposite -/
theorem all3 {l r K a b : D} {c : Cell} (h1 : m_join [l, r, K] = .ok (.d a)) (h2 : m_join [a, l, K] = .ok (.d b)) (h3 : m_reduce [b] = .ok c) (hc : okP c = .ok c) : m_join_all [.list [l, r, l], K] = .ok c := by
  have i0 : idxD (.d (.list [l, r, l])) (.d (.int 0)) = .ok (.d l) := idx_list (k := 0) rfl
  have ct : cutD [l, r, l] (some 1) none = [r, l] := cut_from [l, r, l] 1
  unfold m_join_all runD g_join_all
  simp -implicitDefEqProofs [startD, i0, setR, ct, l0_join_all, h1, h2, h3, hc, forD]
theorem all1 {r K : D} {c : Cell} (h3 : m_reduce [r] = .ok c) (hc : okP c = .ok c) : m_join_all [.list [r], K] = .ok c := by
  have i0 : idxD (.d (.list [r])) (.d (.int 0)) = .ok (.d r) := idx_list (k := 0) rfl
  have ct : cutD [r] (some 1) none = [] := cut_from [r] 1
  unfold m_join_all runD g_join_all
  simp -implicitDefEqProofs [startD, i0, setR, ct, h3, hc, forD]
section
variable {rd : List D} {f w : Nat} {V : List Vd} {E : List (List Nat)}
theorem opp_sm (hm : Sm f V E w) : Sm f (V.map opp) E w := ⟨⟨by rw [List.length_map]; exact hm.ok.len, hm.ok.fst, hm.ok.small, hm.ok.row⟩, hm.n4, hm.wide, hm.w1⟩
theorem opposite_ok {c : D} (hm : Sm f V E w) (hred : m_reduce [mon rd f (V.map opp) E] = .ok (.d c)) : m_opposite [mon rd f V E] = .ok (.d c) := by
  have n4 := hm.n4
  have hl := hm.ok.len
  have em : mon rd f (V.map opp) E = .tuple [.tuple rd, .int (f : Int), .tuple ((V.map opp).map vt), .tuple (E.map stepD)] := by unfold mon; rfl
  rw [em] at hred
  have lc : ∀ e : Env, e.length = 2 → lcL (lcD ([1] : List Nat) (.nm 1) (fun en => (R.ok true)) (fun en => ((consR ((getC 1 en).bind Cell.val) (R.ok [])).bind m_turned)) (V.map vt) e) = .ok (.own ((V.map opp).map vt)) := fun e he => by
    rw [List.map_map]
    match e, he with
    | [a0, a1], _ =>
      refine lc_of (em := vt) (by omega) fun v _ => ?_
      have t := turned_ok v
      simp -implicitDefEqProofs [wipeC, t]
  have lc' := lc [.d (mon rd f V E), .un] rfl
  have tv : tupleD (.own ((V.map opp).map vt)) = .ok (.d (.tuple ((V.map opp).map vt))) := rfl
  generalize (V.map opp).map vt = JV at *
  unfold m_opposite runD g_opposite
  simp -implicitDefEqProofs [startD, mon0, mon1, mon2, mon3, lc', tv, tup4, hred, -List.map_map]
end
open K88 (firsts firsts_get)
structure Nice (d : Nat) (x : D) : Prop where
  lay : x.canLay0 = true
  slim : slim x = true
  dep : x.depth ≤ d
theorem nice_all {d : Nat} : ∀ {xs : List D}, (∀ x ∈ xs, Nice d x) → PySem.PyData.canLayAll0 xs = true ∧ slimAll xs = true ∧ PySem.PyData.depthAll xs ≤ d
  | [], _ => ⟨rfl, rfl, Nat.zero_le d⟩
  | x :: xs, h => by
    have a := h x List.mem_cons_self
    have b := nice_all fun y hy => h y (List.mem_cons_of_mem _ hy)
    refine ⟨?_, ?_, ?_⟩
    · show (x.canLay0 && PySem.PyData.canLayAll0 xs) = true
      rw [a.lay, b.1]; rfl
    · show (slim x && slimAll xs) = true
      rw [a.slim, b.2.1]; rfl
    · show max x.depth (PySem.PyData.depthAll xs) ≤ d
      exact Nat.max_le.mpr ⟨a.dep, b.2.2⟩
theorem nice_list {d : Nat} {xs : List D} (h : ∀ x ∈ xs, Nice d x) (hl : xs.length ≤ 100000) : Nice (d + 1) (.list xs) := by
  have b := nice_all h
  exact ⟨b.1, Bool.and_eq_true_iff.mpr ⟨decide_eq_true hl, b.2.1⟩, Nat.succ_le_succ b.2.2⟩
theorem nice_tuple {d : Nat} {xs : List D} (h : ∀ x ∈ xs, Nice d x) (hl : xs.length ≤ 100000) : Nice (d + 1) (.tuple xs) := by
  have b := nice_all h
  exact ⟨b.1, Bool.and_eq_true_iff.mpr ⟨decide_eq_true hl, b.2.1⟩, Nat.succ_le_succ b.2.2⟩
theorem nice_int (i : Int) : Nice 0 (.int i) := ⟨rfl, rfl, Nat.le_refl 0⟩
theorem nice_none : Nice 0 .none := ⟨rfl, rfl, Nat.le_refl 0⟩
theorem nice_vt (v : Vd) : Nice 0 (vt v) := ⟨vtE.lay v, by cases v <;> rfl, vtE.dep v⟩
theorem nice_up {d e : Nat} {x : D} (h : Nice d x) (l : d ≤ e) : Nice e x := ⟨h.lay, h.slim, Nat.le_trans h.dep l⟩
theorem nice_alike {d : Nat} {x : D} (h : Nice d x) (l : d < 12) : m_law_alike 12 [x, x] = .ok (.d (.bool true)) := alike_same 12 x h.lay h.slim (by have := h.dep; omega)
theorem nice_nats {l : List Nat} : ∀ x ∈ nats l, Nice 0 x := fun x hx => by
  obtain ⟨n, _, rfl⟩ := List.mem_map.mp hx
  exact nice_int _
theorem nice_rd {w : Nat} : ∀ x ∈ RD.take w, Nice 1 x := fun x hx => by
  have : x ∈ RD := List.mem_of_mem_take hx
  simp only [RD, List.mem_cons, List.not_mem_nil, or_false] at this
  rcases this with rfl | rfl | rfl | rfl | rfl | rfl <;> exact ⟨rfl, rfl, by decide⟩
theorem nice_mon {w f : Nat} {V : List Vd} {E : List (List Nat)} (hV : V.length ≤ 1000) (hE : E.length ≤ 1000) (hr : ∀ r ∈ E, r.length ≤ 1000) : Nice 3 (mon (RD.take w) f V E) := by
  unfold mon
  refine nice_tuple (fun x hx => ?_) (by simp)
  simp only [List.mem_cons, List.not_mem_nil, or_false] at hx
  rcases hx with rfl | rfl | rfl | rfl
  · exact nice_tuple nice_rd (by rw [List.length_take]; have : RD.length = 6 := rfl; omega)
  · exact nice_up (nice_int _) (by omega)
  · exact nice_up (nice_tuple (fun x hx => by obtain ⟨v, _, rfl⟩ := List.mem_map.mp hx; exact nice_vt v) (by rw [List.length_map]; omega)) (by omega)
  · refine nice_tuple (fun x hx => ?_) (by rw [List.length_map]; omega)
    obtain ⟨r, hr', rfl⟩ := List.mem_map.mp hx
    exact nice_tuple nice_nats (by rw [List.length_map]; have := hr r hr'; omega)
def x55 : D := .tuple [.int 5, .int 5]
def wideM (rd : List D) (f : Nat) (V : List Vd) (E : List (List Nat)) : D := .tuple [.tuple (rd ++ [x55]), nat f, .tuple (V.map vt), .tuple (E.map fun r => .tuple (nats r ++ [.int 0]))]
theorem rd_shaped {w : Nat} (h : w ≤ 3) : PySem.SeqAt.shaped (.tuple (RD.take w)) = true := by
  have : w = 0 ∨ w = 1 ∨ w = 2 ∨ w = 3 := by omega
  rcases this with rfl | rfl | rfl | rfl <;> decide +kernel
theorem ne_of {x y : D} (h : (PySem.SeqAt.shaped x && PySem.SeqAt.shaped y && !PySem.PyData.eqv x y) = true) : neD (.d x) (.d y) = .ok (.d (.bool true)) := by
  rw [Bool.and_eq_true, Bool.and_eq_true] at h
  rw [neD_ok h.1.1 h.1.2, h.2]
theorem rd_other {w : Nat} (h : w ≤ 3) : neD (.d (.tuple (RD.take w))) (.d (.tuple (RD.take w ++ [x55]))) = .ok (.d (.bool true)) ∧ neD (.d (.tuple (RD.take w ++ [x55]))) (.d (.tuple (RD.take w))) = .ok (.d (.bool true)) := by
  have : w = 0 ∨ w = 1 ∨ w = 2 ∨ w = 3 := by omega
  rcases this with rfl | rfl | rfl | rfl <;> exact ⟨ne_of (by decide +kernel), ne_of (by decide +kernel)⟩
/-- refused -/
theorem join_ex {a b : D} {xs ys : List D} (K : D) (ha : idxD (.d a) (.d (.int 0)) = .ok (.d (.tuple xs))) (hb : idxD (.d b) (.d (.int 0)) = .ok (.d (.tuple ys))) (ne : neD (.d (.tuple xs)) (.d (.tuple ys)) = .ok (.d (.bool true))) :
    m_join [a, b, K] = .ex (PySem.Str.ofString "OtherReadings") [] := by
  have chk : m_check_lists [a, b] = .ex (PySem.Str.ofString "OtherReadings") [] := by
    unfold m_check_lists runD g_check_lists
    simp -implicitDefEqProofs [startD, ha, hb, ne]
  have pr : m_pair_nodes [a, b] = .ex (PySem.Str.ofString "OtherReadings") [] := by
    unfold m_pair_nodes runD g_pair_nodes
    simp -implicitDefEqProofs [startD, chk]
  unfold m_join runD g_join
  simp -implicitDefEqProofs [startD, pr]
theorem red_nice {w f : Nat} {V : List Vd} {E : List (List Nat)} (hm : Sm f V E w) (G : List Nat) : Nice 3 (mon (RD.take w) 0 (redV V (reach f E) G) (redE E (reach f E) G)) := by
  have hP := reach_part hm.ok
  have sm := hm.ok.small
  have Plen : (reach f E).length ≤ E.length := by
    have := nodup_len _ (List.range E.length) hP.nd fun p hp => List.mem_range.mpr (by rw [← hm.ok.len]; exact hP.lt p hp)
    rw [List.length_range] at this
    exact this
  have fl := firsts_le_n (G := G) (reach f E).length
  refine nice_mon (by unfold redV; rw [List.length_map]; omega) (by unfold redE; rw [List.length_map]; omega) fun r hr => ?_
  unfold redE at hr
  obtain ⟨a, ha, rfl⟩ := List.mem_map.mp hr
  obtain ⟨j, hj⟩ := List.getElem?_of_mem ha
  have al := (firsts_get _ _ _ hj).2
  unfold gOf
  rw [List.length_map, subE_get al, List.length_map]
  exact (hm.ok.row _ (by rw [← hm.ok.len]; exact hP.lt _ (getD_mem al))).1
end K89
namespace K89
open DL L2
/-! ### how long a repr is -/
structure Shw (L : Nat) (x : D) : Prop where
  show1 : x.showable = true
  len : (PySem.PyData.shown x).length ≤ L
  sok : PySem.PyData.strOk (PySem.PyData.shown x) = true
theorem shw_up {L M : Nat} {x : D} (h : Shw L x) (l : L ≤ M) : Shw M x := ⟨h.show1, Nat.le_trans h.len l, h.sok⟩
theorem sok_app {x y : PySem.Str} (a : PySem.PyData.strOk x = true) (b : PySem.PyData.strOk y = true) : PySem.PyData.strOk (x ++ y) = true := by
  show (x.cps ++ y.cps).all (· < 0x110000) = true
  have a : x.cps.all (· < 0x110000) = true := a
  have b : y.cps.all (· < 0x110000) = true := b
  rw [Array.all_append, a, b]; rfl
theorem sok_join {sep : PySem.Str} (q : PySem.PyData.strOk sep = true) : ∀ xs : List PySem.Str, (∀ x ∈ xs, PySem.PyData.strOk x = true) → PySem.PyData.strOk (PySem.Str.join sep xs) = true
  | [], _ => (by decide +kernel : PySem.PyData.strOk PySem.Str.empty = true)
  | [x], h => h x List.mem_cons_self
  | x :: y :: r, h => sok_app (sok_app (h x List.mem_cons_self) q) (sok_join q (y :: r) fun z hz => h z (List.mem_cons_of_mem _ hz))
theorem shw_all {L : Nat} : ∀ {xs : List D}, (∀ x ∈ xs, Shw L x) → PySem.PyData.showableAll xs = true ∧ PySem.piled (PySem.PyData.shownAll xs) ≤ xs.length * (L + 2) ∧ (PySem.PyData.shownAll xs).length = xs.length ∧ ∀ t ∈ PySem.PyData.shownAll xs, PySem.PyData.strOk t = true
  | [], _ => ⟨rfl, by simp [PySem.PyData.shownAll, PySem.piled], rfl, fun t h => (by cases h)⟩
  | x :: xs, h => by
    have a := h x List.mem_cons_self
    obtain ⟨b1, b2, b3, b4⟩ := shw_all fun y hy => h y (List.mem_cons_of_mem _ hy)
    refine ⟨?_, ?_, ?_, fun t ht => ?_⟩
    · show (x.showable && PySem.PyData.showableAll xs) = true
      rw [a.show1, b1]; rfl
    · show PySem.piled (PySem.PyData.shown x :: PySem.PyData.shownAll xs) ≤ _
      have := a.len
      rw [List.length_cons, Nat.succ_mul]
      rw [PySem.piled_cons]
      omega
    · show (PySem.PyData.shown x :: PySem.PyData.shownAll xs).length = _
      rw [List.length_cons, b3, List.length_cons]
    · rcases List.mem_cons.mp (show t ∈ PySem.PyData.shown x :: PySem.PyData.shownAll xs from ht) with rfl | ht
      · exact a.sok
      · exact b4 t ht
theorem shw_tuple {L : Nat} {xs : List D} (h : ∀ x ∈ xs, Shw L x) {M : Nat} (hM : xs.length * (L + 2) + 5 ≤ M) : Shw M (.tuple xs) := by
  obtain ⟨h1, h2, h3, h4⟩ := shw_all h
  refine ⟨h1, ?_, sok_app (sok_app (by decide +kernel) (sok_join (by decide +kernel) _ h4)) (by split <;> decide +kernel)⟩
  show (PySem.tupleText (PySem.PyData.shownAll xs)).length ≤ M
  unfold PySem.tupleText
  rw [PySem.strLen_append, PySem.strLen_append]
  have e1 : ((("(" : String) : PySem.Str)).length = 1 := rfl
  have e3 : (((if (PySem.PyData.shownAll xs).length == 1 then ",)" else ")" : String) : PySem.Str)).length ≤ 2 := by split <;> decide
  rw [e1]
  by_cases n : PySem.PyData.shownAll xs = []
  · rw [n] at e3 ⊢
    have e4 : (PySem.Str.join ", " []).length = 0 := rfl
    omega
  · have := PySem.join_length_add _ n
    omega
theorem shw_nat {n : Nat} (h : n < 10) : Shw 12 (.int (n : Int)) := by
  have : ∀ m < 10, ((PySem.PyData.int ((m : Nat) : Int)).showable && decide ((PySem.PyData.shown (.int ((m : Nat) : Int))).length ≤ 12) && PySem.PyData.strOk (PySem.PyData.shown (.int ((m : Nat) : Int)))) = true := by decide +kernel
  have q := this n h
  rw [Bool.and_eq_true, Bool.and_eq_true] at q
  exact ⟨q.1.1, of_decide_eq_true q.1.2, q.2⟩
theorem shw_vt (v : Vd) : Shw 20 (vt v) := by
  have : ((vt v).showable && decide ((PySem.PyData.shown (vt v)).length ≤ 20) && PySem.PyData.strOk (PySem.PyData.shown (vt v))) = true := by cases v <;> decide +kernel
  rw [Bool.and_eq_true, Bool.and_eq_true] at this
  exact ⟨this.1.1, of_decide_eq_true this.1.2, this.2⟩
theorem shw_rd {w : Nat} : ∀ x ∈ RD.take w, Shw 100 x := fun x hx => by
  have hx : x ∈ RD := List.mem_of_mem_take hx
  have all : RD.all (fun x => x.showable && decide ((PySem.PyData.shown x).length ≤ 100) && PySem.PyData.strOk (PySem.PyData.shown x)) = true := by decide +kernel
  have := List.all_eq_true.mp all x hx
  rw [Bool.and_eq_true, Bool.and_eq_true] at this
  exact ⟨this.1.1, of_decide_eq_true this.1.2, this.2⟩
theorem shw_mon {w f : Nat} {V : List Vd} {E : List (List Nat)} (hm : Sm f V E w) (w3 : w ≤ 3) (n6 : E.length ≤ 6) : Shw 5000 (mon (RD.take w) f V E) := by
  have hl := hm.ok.len
  have hf := hm.ok.fst
  unfold mon
  refine shw_tuple (L := 1200) (fun x hx => ?_) (by simp)
  simp only [List.mem_cons, List.not_mem_nil, or_false] at hx
  rcases hx with rfl | rfl | rfl | rfl
  · refine shw_tuple shw_rd ?_
    have : (RD.take w).length ≤ 3 := by rw [List.length_take]; omega
    omega
  · exact shw_up (shw_nat (by omega)) (by omega)
  · exact shw_tuple (L := 20) (fun x hx => by obtain ⟨v, _, rfl⟩ := List.mem_map.mp hx; exact shw_vt v) (by rw [List.length_map]; omega)
  · refine shw_tuple (L := 80) (fun x hx => ?_) (by rw [List.length_map]; omega)
    obtain ⟨r, hr', rfl⟩ := List.mem_map.mp hx
    obtain ⟨i, hi⟩ := List.getElem?_of_mem hr'
    have li := (List.getElem?_eq_some_iff.mp hi).1
    have rl := hm.wide i li
    have rr := (hm.ok.row i li).2
    rw [getD_of hi] at rl rr
    exact shw_tuple (L := 12) (fun x hx => by obtain ⟨n, hn, rfl⟩ := List.mem_map.mp hx; exact shw_nat (by have := rr n hn; omega)) (by unfold nats; rw [List.length_map]; omega)
theorem repr_two {w f f' : Nat} {V V' : List Vd} {E E' : List (List Nat)} (hm : Sm f V E w) (hm' : Sm f' V' E' w) (w3 : w ≤ 3) (n6 : E.length ≤ 6) (n6' : E'.length ≤ 6) :
    reprOk (.tuple [mon (RD.take w) f V E, mon (RD.take w) f' V' E']) = true ∧ PySem.PyData.strOk (PySem.PyData.shown (.tuple [mon (RD.take w) f V E, mon (RD.take w) f' V' E'])) = true := by
  have a := shw_mon hm w3 n6
  have b := shw_mon hm' w3 n6'
  have c : Shw 16777216 (.tuple [mon (RD.take w) f V E, mon (RD.take w) f' V' E']) := shw_tuple (L := 5000) (fun x hx => by
    simp only [List.mem_cons, List.not_mem_nil, or_false] at hx
    rcases hx with rfl | rfl
    · exact a
    · exact b) (by simp)
  have nm : ∀ {f : Nat} {V : List Vd} {E : List (List Nat)}, Sm f V E w → E.length ≤ 6 → Nice 3 (mon (RD.take w) f V E) := fun {f V E} h n => nice_mon (by rw [h.ok.len]; omega) (by omega) fun r hr => by
    obtain ⟨i, hi⟩ := List.getElem?_of_mem hr
    have li := (List.getElem?_eq_some_iff.mp hi).1
    have := (h.ok.row i li).1
    rw [getD_of hi] at this
    exact this
  have d : Nice 4 (.tuple [mon (RD.take w) f V E, mon (RD.take w) f' V' E']) := nice_tuple (fun x hx => by
    simp only [List.mem_cons, List.not_mem_nil, or_false] at hx
    rcases hx with rfl | rfl
    · exact nm hm n6
    · exact nm hm' n6') (by simp)
  have nd := PySem.PyData.hasDict_of_canLay _ d.lay
  have dp := d.dep
  refine ⟨?_, c.sok⟩
  unfold reprOk
  rw [c.show1, nd, decide_eq_true (show _ ≤ 50 by omega), decide_eq_true c.len]; rfl
end K89
namespace K89
open DL L2
open K88 (firsts firsts_get)
theorem kind_ok (k : Kd) {w f f' : Nat} {V V' : List Vd} {E E' : List (List Nat)} (w3 : w ≤ 3) (hm : Sm f V E w) (hm' : Sm f' V' E' w) (n6 : E.length ≤ 6) (n6' : E'.length ≤ 6) :
    ∃ A B : D, m_join [mon (RD.take w) f V E, mon (RD.take w) f' V' E', kd k] = .ok (.d A) ∧ m_law_joined_monitor [kd k, mon (RD.take w) f V E, mon (RD.take w) f' V' E'] = .ok (.d A) ∧
      m_join_all [.list [mon (RD.take w) f V E, mon (RD.take w) f' V' E', mon (RD.take w) f V E], kd k] = .ok (.d B) ∧ m_law_joined_monitor [kd k, A, mon (RD.take w) f V E] = .ok (.d B) ∧ Nice 3 A ∧ Nice 3 B := by
  have hrd : (RD.take w).length = w := by rw [List.length_take]; have : RD.length = 6 := rfl; omega
  have hsh := rd_shaped w3
  have nn0 := Nat.mul_le_mul n6 n6'
  have s1 := join_sm k hm hm' (by omega)
  have l1 : (prE w f f' E E').length ≤ 36 := by
    have := prs_len hm hm'
    have le : (prE w f f' E E').length = (prs w f f' E E').length := List.length_map _
    omega
  have j1 := join_ok (rd := RD.take w) k hm hm' (by omega) hrd hsh
  obtain ⟨k1, h1, r1⟩ := reduce_ok (rd := RD.take w) s1.ok (by omega)
  rw [r1] at j1
  obtain ⟨RM, e1, e2⟩ := joinm_ok (rd := RD.take w) k hm hm' (by omega) hrd
  rw [smallest_ok (rd := RD.take w) s1 (by omega) h1] at e1
  cases e1
  obtain ⟨t1, t2, t3⟩ := red_red (rd := RD.take w) s1 (by omega) h1 rfl
  have c1 := red_nice s1 (dgr (sub (jV k w f f' V V' E E') .sure (reach 0 (prE w f f' E E'))) (subE (prE w f f' E E') (reach 0 (prE w f f' E E'))) k1)
  generalize redV (jV k w f f' V V' E E') _ _ = V1 at *
  generalize redE (prE w f f' E E') _ _ = E1 at *
  have n1 : E1.length * E.length ≤ 36 * 6 := Nat.mul_le_mul (by omega) n6
  have s2 := join_sm k t1 hm (by omega)
  have j2 := join_ok (rd := RD.take w) k t1 hm (by omega) hrd hsh
  obtain ⟨k2, h2, r2⟩ := reduce_ok (rd := RD.take w) s2.ok (by omega)
  rw [r2] at j2
  obtain ⟨RM, d1, d2⟩ := joinm_ok (rd := RD.take w) k t1 hm (by omega) hrd
  rw [smallest_ok (rd := RD.take w) s2 (by omega) h2] at d1
  cases d1
  obtain ⟨u1, u2, u3⟩ := red_red (rd := RD.take w) s2 (by omega) h2 rfl
  have c2 := red_nice s2 (dgr (sub (jV k w 0 f V1 V E1 E) .sure (reach 0 (prE w 0 f E1 E))) (subE (prE w 0 f E1 E) (reach 0 (prE w 0 f E1 E))) k2)
  exact ⟨_, _, j1, e2, all3 j1 j2 u3 rfl, d2, c1, c2⟩
theorem kturn {S SH L R A B KD : D} {c2 c3 c6 : Cell} (l3 : lstR (.ok [L, R, L]) = .ok (.own [L, R, L])) (a1 : m_join [L, R, KD] = .ok (.d A)) (a2 : m_law_joined_monitor [KD, L, R] = .ok (.d A)) (a3 : m_join_all [.list [L, R, L], KD] = .ok (.d B)) (a4 : m_law_joined_monitor [KD, A, L] = .ok (.d B))
    (a5 : m_law_alike 12 [A, A] = .ok (.d (.bool true))) (a6 : m_law_alike 12 [B, B] = .ok (.d (.bool true))) : turnD (.nm 2) l0_law KD [.d S, .d SH, c2, c3, .d L, .d R, c6, .un, .un] = .nx [.d S, .d SH, .d KD, c3, .d L, .d R, .d A, .un, .un] := by
  simp -implicitDefEqProofs [l0_law, setR, l3, a1, a2, a3, a4, a5, a6]
theorem for3 {g : D → Env → Out} {a b c : D} {e e1 e2 e3 : Env} (h1 : g a e = .nx e1) (h2 : g b e1 = .nx e2) (h3 : g c e2 = .nx e3) : forD g [a, b, c] e = .nx e3 := by
  simp [forD, h1, h2, h3]
theorem law_true (ns : List Int) (hn : ns.length ≤ 63) : m_law [.list (ns.map PySem.PyData.int)] = .ok (.d (.bool true)) := by
  obtain ⟨w, f, V, E, f', V', E', w1, w3, htwo, hm, hm', n6, n6'⟩ := two_ok ns
  have hrd : (RD.take w).length = w := by rw [List.length_take]; have : RD.length = 6 := rfl; omega
  obtain ⟨rp, rs⟩ := repr_two hm hm' w3 n6 n6'
  obtain ⟨A1, B1, a1, a2, a3, a4, a5, a6⟩ := kind_ok .both w3 hm hm' n6 n6'
  obtain ⟨A2, B2, b1, b2, b3, b4, b5, b6⟩ := kind_ok .one w3 hm hm' n6 n6'
  obtain ⟨A3, B3, c1, c2, c3, c4, c5, c6⟩ := kind_ok .told w3 hm hm' n6 n6'
  replace a5 := nice_alike a5 (by decide)
  replace a6 := nice_alike a6 (by decide)
  replace b5 := nice_alike b5 (by decide)
  replace b6 := nice_alike b6 (by decide)
  replace c5 := nice_alike c5 (by decide)
  replace c6 := nice_alike c6 (by decide)
  -- opposite
  obtain ⟨k1, h1, o1⟩ := reduce_ok (rd := RD.take w) (opp_sm hm).ok (by omega)
  have o2 := opposite_ok hm o1
  have o3 := smallest_ok (rd := RD.take w) (opp_sm hm) (by omega) h1
  have o4 := nice_alike (red_nice (opp_sm hm) (dgr (sub (V.map opp) .sure (reach f E)) (subE E (reach f E)) k1)) (by decide)
  generalize mon (RD.take w) 0 (redV (V.map opp) _ _) (redE _ _ _) = OM at *
  -- the right one alone
  obtain ⟨k2, h2, p1⟩ := reduce_ok (rd := RD.take w) hm'.ok (by omega)
  have p3 := smallest_ok (rd := RD.take w) hm' (by omega) h2
  have p2 := all1 (K := kd .one) p1 rfl
  have p4 := nice_alike (red_nice hm' (dgr (sub V' .sure (reach f' E')) (subE E' (reach f' E')) k2)) (by decide)
  generalize mon (RD.take w) 0 (redV V' _ _) (redE _ _ _) = PM at *
  have lc : ∀ c1 c2 c3 c6 c8 : Cell, lcL (lcD ([7] : List Nat) (.nm 7) (fun en => (R.ok true)) (fun en => ((consR ((getC 7 en).bind Cell.val) (R.ok [])).bind m_law_opposed)) (V.map vt) [.d (.list (ns.map PySem.PyData.int)), c1, c2, c3, .d (mon (RD.take w) f V E), .d (mon (RD.take w) f' V' E'), c6, .un, c8]) = .ok (.own ((V.map opp).map vt)) := fun c1 c2 c3 c6 c8 => by
    rw [List.map_map]
    refine lc_of (em := vt) (by have := hm.ok.len; omega) fun v _ => ?_
    have t := opposed_ok v
    simp -implicitDefEqProofs [wipeC, t]
  have tv : tupleD (.own ((V.map opp).map vt)) = .ok (.d (.tuple ((V.map opp).map vt))) := rfl
  have em : mon (RD.take w) f (V.map opp) E = .tuple [.tuple (RD.take w), .int (f : Int), .tuple ((V.map opp).map vt), .tuple (E.map stepD)] := by unfold mon; rfl
  have t4 := tup4 (.tuple (RD.take w)) (.int (f : Int)) (.tuple ((V.map opp).map vt)) (.tuple (E.map stepD))
  rw [← em] at t4
  have up : unpR [4, 5] [.d (.list (ns.map PySem.PyData.int)), .un, .un, .un, .un, .un, .un, .un, .un] (.d (.tuple [mon (RD.take w) f V E, mon (RD.take w) f' V' E'])) = .nx [.d (.list (ns.map PySem.PyData.int)), .un, .un, .un, .d (mon (RD.take w) f V E), .d (mon (RD.take w) f' V' E'), .un, .un, .un] := rfl
  have rep : reprD (.d (.tuple [mon (RD.take w) f V E, mon (RD.take w) f' V' E'])) = .ok (.d (.str (PySem.PyData.shown (.tuple [mon (RD.take w) f V E, mon (RD.take w) f' V' E'])))) := by
    unfold reprD
    exact if_pos rp
  have reE : eqD (.d (.str (PySem.PyData.shown (.tuple [mon (RD.take w) f V E, mon (RD.take w) f' V' E'])))) (.d (.str (PySem.PyData.shown (.tuple [mon (RD.take w) f V E, mon (RD.take w) f' V' E'])))) = .ok (.d (.bool true)) := leaf_eq rs rfl
  have lk : lstR (.ok [kd .both, kd .one, kd .told]) = .ok (.own [kd .both, kd .one, kd .told]) := lstR_ok (by decide)
  have l3 : lstR (.ok [mon (RD.take w) f V E, mon (RD.take w) f' V' E', mon (RD.take w) f V E]) = .ok (.own [mon (RD.take w) f V E, mon (RD.take w) f' V' E', mon (RD.take w) f V E]) := lstR_ok (by simp)
  have l1 : lstR (.ok [mon (RD.take w) f' V' E']) = .ok (.own [mon (RD.take w) f' V' E']) := lstR_ok (by simp)
  -- the wider one
  have t55 : tupR (.ok [PySem.PyData.int 5, .int 5]) = .ok (.d x55) := tup2 _ _
  have t551 : tupR (.ok [x55]) = .ok (.d (.tuple [x55])) := tupR_ok (by simp)
  have ad55 : addD (.d (.tuple (RD.take w))) (.d (.tuple [x55])) = .ok (.d (.tuple (RD.take w ++ [x55]))) := addD_tup (by rw [hrd]; simp; omega)
  have cw := fun (c1 c2 c3 c6 c7 : Cell) => lc_of (em := stepD) (vs := [8]) (i := 8) (xs := E') (g := fun r => PySem.PyData.tuple (nats r ++ [.int 0])) (f := fun en => ((getC 8 en).bind fun x => (tupR (consR (cstD (.int 0) en) (R.ok []))).bind fun y => addD x y))
    (e := [.d (.list (ns.map PySem.PyData.int)), c1, c2, c3, .d (mon (RD.take w) f V E), .d (mon (RD.take w) f' V' E'), c6, c7, .un]) (by omega) (fun r hr => by
      obtain ⟨i, hi⟩ := List.getElem?_of_mem hr
      have li := (List.getElem?_eq_some_iff.mp hi).1
      have rl : r.length ≤ 1000 := by have := (hm'.ok.row i li).1; rw [getD_of hi] at this; exact this
      have t0 : tupR (.ok [PySem.PyData.int 0]) = .ok (.d (.tuple [.int 0])) := tupR_ok (by simp)
      have ad : addD (.d (stepD r)) (.d (.tuple [.int 0])) = .ok (.d (.tuple (nats r ++ [.int 0]))) := addD_tup (by rw [List.length_map]; simp; omega)
      simp -implicitDefEqProofs [t0, ad])
  have tw := tup4 (.tuple (RD.take w ++ [x55])) (.int (f' : Int)) (.tuple (V'.map vt)) (.tuple (E'.map fun r => .tuple (nats r ++ [.int 0])))
  have tw : tupR (.ok [PySem.PyData.tuple (RD.take w ++ [x55]), .int (f' : Int), .tuple (V'.map vt), .tuple (E'.map fun r => .tuple (nats r ++ [.int 0]))]) = .ok (.d (wideM (RD.take w) f' V' E')) := tw
  have iw : idxD (.d (wideM (RD.take w) f' V' E')) (.d (.int 0)) = .ok (.d (.tuple (RD.take w ++ [x55]))) := idx_tuple (k := 0) rfl
  obtain ⟨ne1, ne2⟩ := rd_other w3
  have xJ := join_ex (kd .both) (mon0 (rd := RD.take w) (f := f) (V := V) (E := E)) iw ne1
  have kb : kd .both = .str (PySem.Str.ofString "both") := rfl
  have ko : kd .one = .str (PySem.Str.ofString "one") := rfl
  have kt : kd .told = .str (PySem.Str.ofString "told") := rfl
  have t2 := tup2 (mon (RD.take w) f V E) (mon (RD.take w) f' V' E')
  have f3 := fun S SH => for3 (kturn (S := S) (SH := SH) (c2 := .un) (c3 := .un) (c6 := .un) l3 a1 a2 a3 a4 a5 a6) (kturn l3 b1 b2 b3 b4 b5 b6) (kturn l3 c1 c2 c3 c4 c5 c6)
  clear a1 a2 a3 a4 a5 a6 b1 b2 b3 b4 b5 b6 c1 c2 c3 c4 c5 c6
  generalize wideM (RD.take w) f' V' E' = WM at *
  generalize (E'.map fun r => PySem.PyData.tuple (nats r ++ [.int 0])) = WE at *
  generalize mon (RD.take w) f (V.map opp) E = OW at *
  generalize hshn : PySem.PyData.shown (.tuple [mon (RD.take w) f V E, mon (RD.take w) f' V' E']) = SH at *

  try simp -implicitDefEqProofs [-List.getD_eq_getElem?_getD, -List.map_map] at cw
  rw [kb, ko, kt] at lk f3
  rw [kb] at xJ
  rw [ko] at p2
  have tr2 : tupleD (.d (.tuple (RD.take w))) = .ok (.d (.tuple (RD.take w))) := rfl
  unfold m_law runD g_law
  simp -implicitDefEqProofs [startD, htwo, up, t2, rep, setR, lk, f3, l1, mon0, mon1, mon2, mon3, lc, tv, t4, o2, o3, o4, p2, p3, p4, t55, t551, ad55, cw, tw, tryB, xJ, reE, -List.map_map]
end K89
namespace K89
open PySem PySem.Spec PyProof.Rows L2 DL
theorem all_mk {P : Program} {w : World} {K : PySem.W.Frag} {h : Heap} {mg : Str → Option Value} {fa : Addr} (X : K.In h) (G : h.Ns mainGlobals mg) (hfa : mg "law" = some (.ref fa))
    {f0 : Addr} {od0 an0 : Option Addr} {sl0 : Array (Option Value)} {oc0 kV0 dc0 pm0 cd0 ct0 : Value}
    {f1 : Addr} {od1 an1 : Option Addr} {sl1 : Array (Option Value)} {oc1 kV1 dc1 pm1 cd1 ct1 : Value}
    {f2 : Addr} {od2 an2 : Option Addr} {sl2 : Array (Option Value)} {oc2 kV2 dc2 pm2 cd2 ct2 : Value}
    {f3 : Addr} {od3 an3 : Option Addr} {sl3 : Array (Option Value)} {oc3 kV3 dc3 pm3 cd3 ct3 : Value}
    {f4 : Addr} {od4 an4 : Option Addr} {sl4 : Array (Option Value)} {oc4 kV4 dc4 pm4 cd4 ct4 : Value}
    {f5 : Addr} {od5 an5 : Option Addr} {sl5 : Array (Option Value)} {oc5 kV5 dc5 pm5 cd5 ct5 : Value}
    {f6 : Addr} {od6 an6 : Option Addr} {sl6 : Array (Option Value)} {oc6 kV6 dc6 pm6 cd6 ct6 : Value}
    {f7 : Addr} {od7 an7 : Option Addr} {sl7 : Array (Option Value)} {oc7 kV7 dc7 pm7 cd7 ct7 : Value}
    {f8 : Addr} {od8 an8 : Option Addr} {sl8 : Array (Option Value)} {oc8 kV8 dc8 pm8 cd8 ct8 : Value}
    {f9 : Addr} {od9 an9 : Option Addr} {sl9 : Array (Option Value)} {oc9 kV9 dc9 pm9 cd9 ct9 : Value}
    {f10 : Addr} {od10 an10 : Option Addr} {sl10 : Array (Option Value)} {oc10 kV10 dc10 pm10 cd10 ct10 : Value}
    {f11 : Addr} {od11 an11 : Option Addr} {sl11 : Array (Option Value)} {oc11 kV11 dc11 pm11 cd11 ct11 : Value}
    {f12 : Addr} {od12 an12 : Option Addr} {sl12 : Array (Option Value)} {oc12 kV12 dc12 pm12 cd12 ct12 : Value}
    {f13 : Addr} {od13 an13 : Option Addr} {sl13 : Array (Option Value)} {oc13 kV13 dc13 pm13 cd13 ct13 : Value}
    {f14 : Addr} {od14 an14 : Option Addr} {sl14 : Array (Option Value)} {oc14 kV14 dc14 pm14 cd14 ct14 : Value}
    {f15 : Addr} {od15 an15 : Option Addr} {sl15 : Array (Option Value)} {oc15 kV15 dc15 pm15 cd15 ct15 : Value}
    {f16 : Addr} {od16 an16 : Option Addr} {sl16 : Array (Option Value)} {oc16 kV16 dc16 pm16 cd16 ct16 : Value}
    {f17 : Addr} {od17 an17 : Option Addr} {sl17 : Array (Option Value)} {oc17 kV17 dc17 pm17 cd17 ct17 : Value}
    {f18 : Addr} {od18 an18 : Option Addr} {sl18 : Array (Option Value)} {oc18 kV18 dc18 pm18 cd18 ct18 : Value}
    {f19 : Addr} {od19 an19 : Option Addr} {sl19 : Array (Option Value)} {oc19 kV19 dc19 pm19 cd19 ct19 : Value}
    {f20 : Addr} {od20 an20 : Option Addr} {sl20 : Array (Option Value)} {oc20 kV20 dc20 pm20 cd20 ct20 : Value}
    {f21 : Addr} {od21 an21 : Option Addr} {sl21 : Array (Option Value)} {oc21 kV21 dc21 pm21 cd21 ct21 : Value}
    {f22 : Addr} {od22 an22 : Option Addr} {sl22 : Array (Option Value)} {oc22 kV22 dc22 pm22 cd22 ct22 : Value}
    {f23 : Addr} {od23 an23 : Option Addr} {sl23 : Array (Option Value)} {oc23 kV23 dc23 pm23 cd23 ct23 : Value}
    {f24 : Addr} {od24 an24 : Option Addr} {sl24 : Array (Option Value)} {oc24 kV24 dc24 pm24 cd24 ct24 : Value}
    {f25 : Addr} {od25 an25 : Option Addr} {sl25 : Array (Option Value)} {oc25 kV25 dc25 pm25 cd25 ct25 : Value}
    {C0 : Addr}
    (a0 : PySem.W.nsIn K mainGlobals "reached_nodes" = some (some (.ref f0)))
    (l0 : K.lookup f0 = some ⟨oc0, od0, .func (PySem.W.fnOf "reached_nodes" "reached_nodes" (defArgs (topS 4)) (defBody (topS 4)) (defScope (topS 4)) .none kV0 dc0 pm0 an0 cd0 ct0), sl0⟩)
    (c0 : PySem.W.codeIn K cd0 "reached_nodes" = true)
    (k0 : PySem.W.keepIn K (.ref f0) = true)
    (a1 : PySem.W.nsIn K mainGlobals "grouped" = some (some (.ref f1)))
    (l1 : K.lookup f1 = some ⟨oc1, od1, .func (PySem.W.fnOf "grouped" "grouped" (defArgs (topS 5)) (defBody (topS 5)) (defScope (topS 5)) .none kV1 dc1 pm1 an1 cd1 ct1), sl1⟩)
    (c1 : PySem.W.codeIn K cd1 "grouped" = true)
    (k1 : PySem.W.keepIn K (.ref f1) = true)
    (a2 : PySem.W.nsIn K mainGlobals "classes_of" = some (some (.ref f2)))
    (l2 : K.lookup f2 = some ⟨oc2, od2, .func (PySem.W.fnOf "classes_of" "classes_of" (defArgs (topS 6)) (defBody (topS 6)) (defScope (topS 6)) .none kV2 dc2 pm2 an2 cd2 ct2), sl2⟩)
    (c2 : PySem.W.codeIn K cd2 "classes_of" = true)
    (k2 : PySem.W.keepIn K (.ref f2) = true)
    (a3 : PySem.W.nsIn K mainGlobals "reduce" = some (some (.ref f3)))
    (l3 : K.lookup f3 = some ⟨oc3, od3, .func (PySem.W.fnOf "reduce" "reduce" (defArgs (topS 7)) (defBody (topS 7)) (defScope (topS 7)) .none kV3 dc3 pm3 an3 cd3 ct3), sl3⟩)
    (c3 : PySem.W.codeIn K cd3 "reduce" = true)
    (k3 : PySem.W.keepIn K (.ref f3) = true)
    (a4 : PySem.W.nsIn K mainGlobals "turned" = some (some (.ref f4)))
    (l4 : K.lookup f4 = some ⟨oc4, od4, .func (PySem.W.fnOf "turned" "turned" (defArgs (topS 10)) (defBody (topS 10)) (defScope (topS 10)) .none kV4 dc4 pm4 an4 cd4 ct4), sl4⟩)
    (c4 : PySem.W.codeIn K cd4 "turned" = true)
    (k4 : PySem.W.keepIn K (.ref f4) = true)
    (a5 : PySem.W.nsIn K mainGlobals "opposite" = some (some (.ref f5)))
    (l5 : K.lookup f5 = some ⟨oc5, od5, .func (PySem.W.fnOf "opposite" "opposite" (defArgs (topS 14)) (defBody (topS 14)) (defScope (topS 14)) .none kV5 dc5 pm5 an5 cd5 ct5), sl5⟩)
    (c5 : PySem.W.codeIn K cd5 "opposite" = true)
    (k5 : PySem.W.keepIn K (.ref f5) = true)
    (a6 : PySem.W.nsIn K mainGlobals "met_by_both" = some (some (.ref f6)))
    (l6 : K.lookup f6 = some ⟨oc6, od6, .func (PySem.W.fnOf "met_by_both" "met_by_both" (defArgs (topS 11)) (defBody (topS 11)) (defScope (topS 11)) .none kV6 dc6 pm6 an6 cd6 ct6), sl6⟩)
    (c6 : PySem.W.codeIn K cd6 "met_by_both" = true)
    (k6 : PySem.W.keepIn K (.ref f6) = true)
    (a7 : PySem.W.nsIn K mainGlobals "met_by_one" = some (some (.ref f7)))
    (l7 : K.lookup f7 = some ⟨oc7, od7, .func (PySem.W.fnOf "met_by_one" "met_by_one" (defArgs (topS 12)) (defBody (topS 12)) (defScope (topS 12)) .none kV7 dc7 pm7 an7 cd7 ct7), sl7⟩)
    (c7 : PySem.W.codeIn K cd7 "met_by_one" = true)
    (k7 : PySem.W.keepIn K (.ref f7) = true)
    (a8 : PySem.W.nsIn K mainGlobals "told_by_one" = some (some (.ref f8)))
    (l8 : K.lookup f8 = some ⟨oc8, od8, .func (PySem.W.fnOf "told_by_one" "told_by_one" (defArgs (topS 13)) (defBody (topS 13)) (defScope (topS 13)) .none kV8 dc8 pm8 an8 cd8 ct8), sl8⟩)
    (c8 : PySem.W.codeIn K cd8 "told_by_one" = true)
    (k8 : PySem.W.keepIn K (.ref f8) = true)
    (a9 : PySem.W.nsIn K mainGlobals "check_lists" = some (some (.ref f9)))
    (l9 : K.lookup f9 = some ⟨oc9, od9, .func (PySem.W.fnOf "check_lists" "check_lists" (defArgs (topS 9)) (defBody (topS 9)) (defScope (topS 9)) .none kV9 dc9 pm9 an9 cd9 ct9), sl9⟩)
    (c9 : PySem.W.codeIn K cd9 "check_lists" = true)
    (k9 : PySem.W.keepIn K (.ref f9) = true)
    (a10 : PySem.W.nsIn K mainGlobals "pair_nodes" = some (some (.ref f10)))
    (l10 : K.lookup f10 = some ⟨oc10, od10, .func (PySem.W.fnOf "pair_nodes" "pair_nodes" (defArgs (topS 15)) (defBody (topS 15)) (defScope (topS 15)) .none kV10 dc10 pm10 an10 cd10 ct10), sl10⟩)
    (c10 : PySem.W.codeIn K cd10 "pair_nodes" = true)
    (k10 : PySem.W.keepIn K (.ref f10) = true)
    (a11 : PySem.W.nsIn K mainGlobals "join" = some (some (.ref f11)))
    (l11 : K.lookup f11 = some ⟨oc11, od11, .func (PySem.W.fnOf "join" "join" (defArgs (topS 16)) (defBody (topS 16)) (defScope (topS 16)) .none kV11 dc11 pm11 an11 cd11 ct11), sl11⟩)
    (c11 : PySem.W.codeIn K cd11 "join" = true)
    (k11 : PySem.W.keepIn K (.ref f11) = true)
    (a12 : PySem.W.nsIn K mainGlobals "join_all" = some (some (.ref f12)))
    (l12 : K.lookup f12 = some ⟨oc12, od12, .func (PySem.W.fnOf "join_all" "join_all" (defArgs (topS 17)) (defBody (topS 17)) (defScope (topS 17)) .none kV12 dc12 pm12 an12 cd12 ct12), sl12⟩)
    (c12 : PySem.W.codeIn K cd12 "join_all" = true)
    (k12 : PySem.W.keepIn K (.ref f12) = true)
    (a13 : PySem.W.nsIn K mainGlobals "_law_cell" = some (some (.ref f13)))
    (l13 : K.lookup f13 = some ⟨oc13, od13, .func (PySem.W.fnOf "_law_cell" "_law_cell" (defArgs (topS 19)) (defBody (topS 19)) (defScope (topS 19)) .none kV13 dc13 pm13 an13 cd13 ct13), sl13⟩)
    (c13 : PySem.W.codeIn K cd13 "_law_cell" = true)
    (k13 : PySem.W.keepIn K (.ref f13) = true)
    (a14 : PySem.W.nsIn K mainGlobals "_law_draw" = some (some (.ref f14)))
    (l14 : K.lookup f14 = some ⟨oc14, od14, .func (PySem.W.fnOf "_law_draw" "_law_draw" (defArgs (topS 20)) (defBody (topS 20)) (defScope (topS 20)) .none kV14 dc14 pm14 an14 cd14 ct14), sl14⟩)
    (c14 : PySem.W.codeIn K cd14 "_law_draw" = true)
    (k14 : PySem.W.keepIn K (.ref f14) = true)
    (a15 : PySem.W.nsIn K mainGlobals "_law_some_monitor" = some (some (.ref f15)))
    (l15 : K.lookup f15 = some ⟨oc15, od15, .func (PySem.W.fnOf "_law_some_monitor" "_law_some_monitor" (defArgs (topS 21)) (defBody (topS 21)) (defScope (topS 21)) .none kV15 dc15 pm15 an15 cd15 ct15), sl15⟩)
    (c15 : PySem.W.codeIn K cd15 "_law_some_monitor" = true)
    (k15 : PySem.W.keepIn K (.ref f15) = true)
    (a16 : PySem.W.nsIn K mainGlobals "_law_two_monitors" = some (some (.ref f16)))
    (l16 : K.lookup f16 = some ⟨oc16, od16, .func (PySem.W.fnOf "_law_two_monitors" "_law_two_monitors" (defArgs (topS 22)) (defBody (topS 22)) (defScope (topS 22)) .none kV16 dc16 pm16 an16 cd16 ct16), sl16⟩)
    (c16 : PySem.W.codeIn K cd16 "_law_two_monitors" = true)
    (k16 : PySem.W.keepIn K (.ref f16) = true)
    (a17 : PySem.W.nsIn K mainGlobals "_law_opposed" = some (some (.ref f17)))
    (l17 : K.lookup f17 = some ⟨oc17, od17, .func (PySem.W.fnOf "_law_opposed" "_law_opposed" (defArgs (topS 24)) (defBody (topS 24)) (defScope (topS 24)) .none kV17 dc17 pm17 an17 cd17 ct17), sl17⟩)
    (c17 : PySem.W.codeIn K cd17 "_law_opposed" = true)
    (k17 : PySem.W.keepIn K (.ref f17) = true)
    (a18 : PySem.W.nsIn K mainGlobals "_law_reach" = some (some (.ref f18)))
    (l18 : K.lookup f18 = some ⟨oc18, od18, .func (PySem.W.fnOf "_law_reach" "_law_reach" (defArgs (topS 26)) (defBody (topS 26)) (defScope (topS 26)) .none kV18 dc18 pm18 an18 cd18 ct18), sl18⟩)
    (c18 : PySem.W.codeIn K cd18 "_law_reach" = true)
    (k18 : PySem.W.keepIn K (.ref f18) = true)
    (a19 : PySem.W.nsIn K mainGlobals "_law_apart" = some (some (.ref f19)))
    (l19 : K.lookup f19 = some ⟨oc19, od19, .func (PySem.W.fnOf "_law_apart" "_law_apart" (defArgs (topS 27)) (defBody (topS 27)) (defScope (topS 27)) .none kV19 dc19 pm19 an19 cd19 ct19), sl19⟩)
    (c19 : PySem.W.codeIn K cd19 "_law_apart" = true)
    (k19 : PySem.W.keepIn K (.ref f19) = true)
    (a20 : PySem.W.nsIn K mainGlobals "_law_smallest" = some (some (.ref f20)))
    (l20 : K.lookup f20 = some ⟨oc20, od20, .func (PySem.W.fnOf "_law_smallest" "_law_smallest" (defArgs (topS 28)) (defBody (topS 28)) (defScope (topS 28)) .none kV20 dc20 pm20 an20 cd20 ct20), sl20⟩)
    (c20 : PySem.W.codeIn K cd20 "_law_smallest" = true)
    (k20 : PySem.W.keepIn K (.ref f20) = true)
    (a21 : PySem.W.nsIn K mainGlobals "_law_both_nodes" = some (some (.ref f21)))
    (l21 : K.lookup f21 = some ⟨oc21, od21, .func (PySem.W.fnOf "_law_both_nodes" "_law_both_nodes" (defArgs (topS 23)) (defBody (topS 23)) (defScope (topS 23)) .none kV21 dc21 pm21 an21 cd21 ct21), sl21⟩)
    (c21 : PySem.W.codeIn K cd21 "_law_both_nodes" = true)
    (k21 : PySem.W.keepIn K (.ref f21) = true)
    (a22 : PySem.W.nsIn K mainGlobals "_law_joined_verdict" = some (some (.ref f22)))
    (l22 : K.lookup f22 = some ⟨oc22, od22, .func (PySem.W.fnOf "_law_joined_verdict" "_law_joined_verdict" (defArgs (topS 25)) (defBody (topS 25)) (defScope (topS 25)) .none kV22 dc22 pm22 an22 cd22 ct22), sl22⟩)
    (c22 : PySem.W.codeIn K cd22 "_law_joined_verdict" = true)
    (k22 : PySem.W.keepIn K (.ref f22) = true)
    (a23 : PySem.W.nsIn K mainGlobals "_law_joined_monitor" = some (some (.ref f23)))
    (l23 : K.lookup f23 = some ⟨oc23, od23, .func (PySem.W.fnOf "_law_joined_monitor" "_law_joined_monitor" (defArgs (topS 29)) (defBody (topS 29)) (defScope (topS 29)) .none kV23 dc23 pm23 an23 cd23 ct23), sl23⟩)
    (c23 : PySem.W.codeIn K cd23 "_law_joined_monitor" = true)
    (k23 : PySem.W.keepIn K (.ref f23) = true)
    (a24 : PySem.W.nsIn K mainGlobals "_law_alike" = some (some (.ref f24)))
    (l24 : K.lookup f24 = some ⟨oc24, od24, .func (PySem.W.fnOf "_law_alike" "_law_alike" (defArgs (topS 30)) (defBody (topS 30)) (defScope (topS 30)) .none kV24 dc24 pm24 an24 cd24 ct24), sl24⟩)
    (c24 : PySem.W.codeIn K cd24 "_law_alike" = true)
    (k24 : PySem.W.keepIn K (.ref f24) = true)
    (a25 : PySem.W.nsIn K mainGlobals "law" = some (some (.ref f25)))
    (l25 : K.lookup f25 = some ⟨oc25, od25, .func (PySem.W.fnOf "law" "law" (defArgs (topS 31)) (defBody (topS 31)) (defScope (topS 31)) .none kV25 dc25 pm25 an25 cd25 ct25), sl25⟩)
    (c25 : PySem.W.codeIn K cd25 "law" = true)
    (k25 : PySem.W.keepIn K (.ref f25) = true)
    (z_bool : PySem.W.nsIn K mainGlobals "bool" = some none)
    (z_int : PySem.W.nsIn K mainGlobals "int" = some none)
    (z_isinstance : PySem.W.nsIn K mainGlobals "isinstance" = some none)
    (z_len : PySem.W.nsIn K mainGlobals "len" = some none)
    (z_list : PySem.W.nsIn K mainGlobals "list" = some none)
    (z_max : PySem.W.nsIn K mainGlobals "max" = some none)
    (z_range : PySem.W.nsIn K mainGlobals "range" = some none)
    (z_repr : PySem.W.nsIn K mainGlobals "repr" = some none)
    (z_str : PySem.W.nsIn K mainGlobals "str" = some none)
    (z_tuple : PySem.W.nsIn K mainGlobals "tuple" = some none)
    (ea0 : PySem.W.nsIn K mainGlobals "OtherReadings" = some (some (.ref C0)))
    (ex0 : PySem.W.excIn K C0 [.type "ValueError", .type "Exception", .type "BaseException", .type "object"] "ValueError.__new__" = true)
    (ek0 : PySem.W.keepIn K (.ref C0) = true)
    (eb0 : PySem.W.subIn K (.ref C0) (.type "BaseException") = some true)
    (ey0 : PySem.W.typeIn K (.ref C0) = some (.type "type"))
    (ec0 : PySem.W.isClsIn K C0 = true)
    (ez0 : PySem.W.subIn K (.ref C0) (.ref C0) = some true) :
    ∃ fd : FuncData, (∀ (s : Shared) (v : Value), BindsTo s fd ⟨[v], []⟩ [("script", v)]) ∧ ∀ base : Heap, K.In base → base.Ns mainGlobals mg → TopRun P w K mg base fa fd m_law := by
  have e := hfa.symm.trans (PySem.W.mg_of X G a25)
  cases e
  have T : Txt K mg := { n_bool := PySem.W.mg_none_of X G z_bool, n_int := PySem.W.mg_none_of X G z_int, n_isinstance := PySem.W.mg_none_of X G z_isinstance, n_len := PySem.W.mg_none_of X G z_len, n_list := PySem.W.mg_none_of X G z_list, n_max := PySem.W.mg_none_of X G z_max, n_range := PySem.W.mg_none_of X G z_range, n_repr := PySem.W.mg_none_of X G z_repr, n_str := PySem.W.mg_none_of X G z_str, n_tuple := PySem.W.mg_none_of X G z_tuple, x_OtherReadings := ⟨⟨C0, PySem.W.mg_of X G ea0, ex0, ek0, eb0, ey0, exm_same eb0 ec0 ey0 ez0⟩⟩ }
  have D : { D : All K mg // D.d_law.f = fa ∧ D.d_law.fd = PySem.W.fnOf "law" "law" (defArgs (topS 31)) (defBody (topS 31)) (defScope (topS 31)) .none kV25 dc25 pm25 an25 cd25 ct25 } := ⟨{
    d_reached_nodes := ⟨f0, _, fun_mk l0 c0 k0, PySem.W.mg_of X G a0, (fun_mk (st := topS 4) l0 c0 k0).binds fun _ _ _ _ _ _ us hl => match us, hl with | [_], _ => rfl⟩,
    d_grouped := ⟨f1, _, fun_mk l1 c1 k1, PySem.W.mg_of X G a1, (fun_mk (st := topS 5) l1 c1 k1).binds fun _ _ _ _ _ _ us hl => match us, hl with | [_], _ => rfl⟩,
    d_classes_of := ⟨f2, _, fun_mk l2 c2 k2, PySem.W.mg_of X G a2, (fun_mk (st := topS 6) l2 c2 k2).binds fun _ _ _ _ _ _ us hl => match us, hl with | [_, _], _ => rfl⟩,
    d_reduce := ⟨f3, _, fun_mk l3 c3 k3, PySem.W.mg_of X G a3, (fun_mk (st := topS 7) l3 c3 k3).binds fun _ _ _ _ _ _ us hl => match us, hl with | [_], _ => rfl⟩,
    d_turned := ⟨f4, _, fun_mk l4 c4 k4, PySem.W.mg_of X G a4, (fun_mk (st := topS 10) l4 c4 k4).binds fun _ _ _ _ _ _ us hl => match us, hl with | [_], _ => rfl⟩,
    d_opposite := ⟨f5, _, fun_mk l5 c5 k5, PySem.W.mg_of X G a5, (fun_mk (st := topS 14) l5 c5 k5).binds fun _ _ _ _ _ _ us hl => match us, hl with | [_], _ => rfl⟩,
    d_met_by_both := ⟨f6, _, fun_mk l6 c6 k6, PySem.W.mg_of X G a6, (fun_mk (st := topS 11) l6 c6 k6).binds fun _ _ _ _ _ _ us hl => match us, hl with | [_, _], _ => rfl⟩,
    d_met_by_one := ⟨f7, _, fun_mk l7 c7 k7, PySem.W.mg_of X G a7, (fun_mk (st := topS 12) l7 c7 k7).binds fun _ _ _ _ _ _ us hl => match us, hl with | [_, _], _ => rfl⟩,
    d_told_by_one := ⟨f8, _, fun_mk l8 c8 k8, PySem.W.mg_of X G a8, (fun_mk (st := topS 13) l8 c8 k8).binds fun _ _ _ _ _ _ us hl => match us, hl with | [_, _], _ => rfl⟩,
    d_check_lists := ⟨f9, _, fun_mk l9 c9 k9, PySem.W.mg_of X G a9, (fun_mk (st := topS 9) l9 c9 k9).binds fun _ _ _ _ _ _ us hl => match us, hl with | [_, _], _ => rfl⟩,
    d_pair_nodes := ⟨f10, _, fun_mk l10 c10 k10, PySem.W.mg_of X G a10, (fun_mk (st := topS 15) l10 c10 k10).binds fun _ _ _ _ _ _ us hl => match us, hl with | [_, _], _ => rfl⟩,
    d_join := ⟨f11, _, fun_mk l11 c11 k11, PySem.W.mg_of X G a11, (fun_mk (st := topS 16) l11 c11 k11).binds fun _ _ _ _ _ _ us hl => match us, hl with | [_, _, _], _ => rfl⟩,
    d_join_all := ⟨f12, _, fun_mk l12 c12 k12, PySem.W.mg_of X G a12, (fun_mk (st := topS 17) l12 c12 k12).binds fun _ _ _ _ _ _ us hl => match us, hl with | [_, _], _ => rfl⟩,
    d_law_cell := ⟨f13, _, fun_mk l13 c13 k13, PySem.W.mg_of X G a13, (fun_mk (st := topS 19) l13 c13 k13).binds fun _ _ _ _ _ _ us hl => match us, hl with | [_, _], _ => rfl⟩,
    d_law_draw := ⟨f14, _, fun_mk l14 c14 k14, PySem.W.mg_of X G a14, (fun_mk (st := topS 20) l14 c14 k14).binds fun _ _ _ _ _ _ us hl => match us, hl with | [_, _, _], _ => rfl⟩,
    d_law_some_monitor := ⟨f15, _, fun_mk l15 c15 k15, PySem.W.mg_of X G a15, (fun_mk (st := topS 21) l15 c15 k15).binds fun _ _ _ _ _ _ us hl => match us, hl with | [_, _, _, _], _ => rfl⟩,
    d_law_two_monitors := ⟨f16, _, fun_mk l16 c16 k16, PySem.W.mg_of X G a16, (fun_mk (st := topS 22) l16 c16 k16).binds fun _ _ _ _ _ _ us hl => match us, hl with | [_], _ => rfl⟩,
    d_law_opposed := ⟨f17, _, fun_mk l17 c17 k17, PySem.W.mg_of X G a17, (fun_mk (st := topS 24) l17 c17 k17).binds fun _ _ _ _ _ _ us hl => match us, hl with | [_], _ => rfl⟩,
    d_law_reach := ⟨f18, _, fun_mk l18 c18 k18, PySem.W.mg_of X G a18, (fun_mk (st := topS 26) l18 c18 k18).binds fun _ _ _ _ _ _ us hl => match us, hl with | [_, _], _ => rfl⟩,
    d_law_apart := ⟨f19, _, fun_mk l19 c19 k19, PySem.W.mg_of X G a19, (fun_mk (st := topS 27) l19 c19 k19).binds fun _ _ _ _ _ _ us hl => match us, hl with | [_, _], _ => rfl⟩,
    d_law_smallest := ⟨f20, _, fun_mk l20 c20 k20, PySem.W.mg_of X G a20, (fun_mk (st := topS 28) l20 c20 k20).binds fun _ _ _ _ _ _ us hl => match us, hl with | [_], _ => rfl⟩,
    d_law_both_nodes := ⟨f21, _, fun_mk l21 c21 k21, PySem.W.mg_of X G a21, (fun_mk (st := topS 23) l21 c21 k21).binds fun _ _ _ _ _ _ us hl => match us, hl with | [_, _], _ => rfl⟩,
    d_law_joined_verdict := ⟨f22, _, fun_mk l22 c22 k22, PySem.W.mg_of X G a22, (fun_mk (st := topS 25) l22 c22 k22).binds fun _ _ _ _ _ _ us hl => match us, hl with | [_, _, _], _ => rfl⟩,
    d_law_joined_monitor := ⟨f23, _, fun_mk l23 c23 k23, PySem.W.mg_of X G a23, (fun_mk (st := topS 29) l23 c23 k23).binds fun _ _ _ _ _ _ us hl => match us, hl with | [_, _, _], _ => rfl⟩,
    d_law_alike := ⟨f24, _, fun_mk l24 c24 k24, PySem.W.mg_of X G a24, (fun_mk (st := topS 30) l24 c24 k24).binds fun _ _ _ _ _ _ us hl => match us, hl with | [_, _], _ => rfl⟩,
    d_law := ⟨fa, _, fun_mk l25 c25 k25, PySem.W.mg_of X G a25, (fun_mk (st := topS 31) l25 c25 k25).binds fun _ _ _ _ _ _ us hl => match us, hl with | [_], _ => rfl⟩ }, rfl, rfl⟩
  obtain ⟨D, e1, e2⟩ := D
  refine ⟨D.d_law.fd, fun s v => ?_, fun base _ _ => ?_⟩
  · rw [e2]
    exact .of_eq rfl
  · rw [← e1]
    exact ok_law T D
end K89
open PySem PySem.W PyProof.Rows
set_option maxHeartbeats 0 in
theorem PySem.Challenge.cw_wardenworks_k89_joined_monitors_holds : PySem.Challenge.rw_wardenworks_k89_joined_monitors.Holds := by
  w_on; o_law; k_head; (case hw => w_witness2)
  k_fill
  refine DL.walk_top (l := PySem.Challenge.rw_wardenworks_k89_joined_monitors) (n := 63) (m := K89.m_law) rfl (by decide) rfl (fun w h Y => PySem.W.kIn_of Y) ?F K89.law_true
  case F =>
    intro w mg fa h KX G hmg
    refine' K89.all_mk KX G hmg ?a0 ?l0 ?c0 ?k0 ?a1 ?l1 ?c1 ?k1 ?a2 ?l2 ?c2 ?k2 ?a3 ?l3 ?c3 ?k3 ?a4 ?l4 ?c4 ?k4 ?a5 ?l5 ?c5 ?k5 ?a6 ?l6 ?c6 ?k6 ?a7 ?l7 ?c7 ?k7 ?a8 ?l8 ?c8 ?k8 ?a9 ?l9 ?c9 ?k9 ?a10 ?l10 ?c10 ?k10 ?a11 ?l11 ?c11 ?k11 ?a12 ?l12 ?c12 ?k12 ?a13 ?l13 ?c13 ?k13 ?a14 ?l14 ?c14 ?k14 ?a15 ?l15 ?c15 ?k15 ?a16 ?l16 ?c16 ?k16 ?a17 ?l17 ?c17 ?k17 ?a18 ?l18 ?c18 ?k18 ?a19 ?l19 ?c19 ?k19 ?a20 ?l20 ?c20 ?k20 ?a21 ?l21 ?c21 ?k21 ?a22 ?l22 ?c22 ?k22 ?a23 ?l23 ?c23 ?k23 ?a24 ?l24 ?c24 ?k24 ?a25 ?l25 ?c25 ?k25 ?z_bool ?z_int ?z_isinstance ?z_len ?z_list ?z_max ?z_range ?z_repr ?z_str ?z_tuple ?ea0 ?ex0 ?ek0 ?eb0 ?ey0 ?ec0 ?ez0
    (case a0 => k_is)
    (case l0 => k_is)
    (case c0 => k_is)
    (case k0 => k_is)
    (case a1 => k_is)
    (case l1 => k_is)
    (case c1 => k_is)
    (case k1 => k_is)
    (case a2 => k_is)
    (case l2 => k_is)
    (case c2 => k_is)
    (case k2 => k_is)
    (case a3 => k_is)
    (case l3 => k_is)
    (case c3 => k_is)
    (case k3 => k_is)
    (case a4 => k_is)
    (case l4 => k_is)
    (case c4 => k_is)
    (case k4 => k_is)
    (case a5 => k_is)
    (case l5 => k_is)
    (case c5 => k_is)
    (case k5 => k_is)
    (case a6 => k_is)
    (case l6 => k_is)
    (case c6 => k_is)
    (case k6 => k_is)
    (case a7 => k_is)
    (case l7 => k_is)
    (case c7 => k_is)
    (case k7 => k_is)
    (case a8 => k_is)
    (case l8 => k_is)
    (case c8 => k_is)
    (case k8 => k_is)
    (case a9 => k_is)
    (case l9 => k_is)
    (case c9 => k_is)
    (case k9 => k_is)
    (case a10 => k_is)
    (case l10 => k_is)
    (case c10 => k_is)
    (case k10 => k_is)
    (case a11 => k_is)
    (case l11 => k_is)
    (case c11 => k_is)
    (case k11 => k_is)
    (case a12 => k_is)
    (case l12 => k_is)
    (case c12 => k_is)
    (case k12 => k_is)
    (case a13 => k_is)
    (case l13 => k_is)
    (case c13 => k_is)
    (case k13 => k_is)
    (case a14 => k_is)
    (case l14 => k_is)
    (case c14 => k_is)
    (case k14 => k_is)
    (case a15 => k_is)
    (case l15 => k_is)
    (case c15 => k_is)
    (case k15 => k_is)
    (case a16 => k_is)
    (case l16 => k_is)
    (case c16 => k_is)
    (case k16 => k_is)
    (case a17 => k_is)
    (case l17 => k_is)
    (case c17 => k_is)
    (case k17 => k_is)
    (case a18 => k_is)
    (case l18 => k_is)
    (case c18 => k_is)
    (case k18 => k_is)
    (case a19 => k_is)
    (case l19 => k_is)
    (case c19 => k_is)
    (case k19 => k_is)
    (case a20 => k_is)
    (case l20 => k_is)
    (case c20 => k_is)
    (case k20 => k_is)
    (case a21 => k_is)
    (case l21 => k_is)
    (case c21 => k_is)
    (case k21 => k_is)
    (case a22 => k_is)
    (case l22 => k_is)
    (case c22 => k_is)
    (case k22 => k_is)
    (case a23 => k_is)
    (case l23 => k_is)
    (case c23 => k_is)
    (case k23 => k_is)
    (case a24 => k_is)
    (case l24 => k_is)
    (case c24 => k_is)
    (case k24 => k_is)
    (case a25 => k_is)
    (case l25 => k_is)
    (case c25 => k_is)
    (case k25 => k_is)
    (case z_bool => k_is)
    (case z_int => k_is)
    (case z_isinstance => k_is)
    (case z_len => k_is)
    (case z_list => k_is)
    (case z_max => k_is)
    (case z_range => k_is)
    (case z_repr => k_is)
    (case z_str => k_is)
    (case z_tuple => k_is)
    (case ea0 => k_is)
    (case ex0 => k_exc)
    (case ek0 => k_is)
    (case eb0 => k_is)
    (case ey0 => k_is)
    (case ec0 => k_is)
    (case ez0 => first | rfl | k_is)
