import PyProof.Rows.All
import HandS.ForMost
import HandS.Exc
import HandS.ExcOwn
import HandS.TryOnly
import HandS.WordsExc
import HandS.TupAny
import HandS.IsInst
import HandS.RevRange
import HandS.ExcInit
import HandS.ExcField
import HandS.Deep
import HandS.Iter
import HandS.RaiseMore
import HandS.Text
import PySem.Challenge.RW_wardenworks_k94_texts_of_logbooks
set_option Elab.async false
set_option linter.all false
set_option maxRecDepth 100000
/-! ## DL, part 1: data, cells, results (plain functions) -/
namespace DL
open PySem
abbrev D := PyData
/-- what a slot holds: nothing that is told, data that nobody changes, a list of the frame's own, a list of own lists, a list that is lent for changing, an exception -/
inductive Cell where
  | un
  | d (x : D)
  | own (xs : List D)
  | own2 (xss : List (List D))
  | par (a : Addr) (xs : List D)
  | exc (a dd : Addr) (f : Str) (x : D)
abbrev Env := List Cell
/-- a result: none told, a value, an exception of the class named k with its fields -/
inductive R (α : Type) where
  | no
  | ok (a : α)
  | ex (k : Str) (fs : List (Str × D))
def R.bind {α β : Type} : R α → (α → R β) → R β
  | .no, _ => .no
  | .ok a, f => f a
  | .ex k fs, _ => .ex k fs
@[simp] theorem R.bind_ok {α β : Type} (a : α) (f : α → R β) : (R.ok a).bind f = f a := rfl
@[simp] theorem R.bind_no {α β : Type} (f : α → R β) : (R.no : R α).bind f = .no := rfl
@[simp] theorem R.bind_ex {α β : Type} (k : Str) (fs : List (Str × D)) (f : α → R β) : (R.ex k fs : R α).bind f = .ex k fs := rfl
/-- a statement's result -/
inductive Out where
  | no
  | nx (e : Env)
  | rt (c : Cell)
  | bk (e : Env)
  | ct (e : Env)
  | ex (k : Str) (fs : List (Str × D)) (e : Env)
/-- an expression's result within a statement -/
def R.into {α : Type} (r : R α) (e : Env) (f : α → Out) : Out :=
  match r with
  | .no => .no
  | .ok a => f a
  | .ex k fs => .ex k fs e
@[simp] theorem R.into_ok {α : Type} (a : α) (e : Env) (f : α → Out) : (R.ok a).into e f = f a := rfl
@[simp] theorem R.into_no {α : Type} (e : Env) (f : α → Out) : (R.no : R α).into e f = .no := rfl
@[simp] theorem R.into_ex {α : Type} (k : Str) (fs : List (Str × D)) (e : Env) (f : α → Out) : (R.ex k fs : R α).into e f = .ex k fs e := rfl
def Out.andThen (o : Out) (f : Env → Out) : Out :=
  match o with
  | .nx e => f e
  | o => o
@[simp] theorem Out.andThen_nx (e : Env) (f : Env → Out) : (Out.nx e).andThen f = f e := rfl
@[simp] theorem Out.andThen_no (f : Env → Out) : Out.no.andThen f = .no := rfl
@[simp] theorem Out.andThen_rt (c : Cell) (f : Env → Out) : (Out.rt c).andThen f = .rt c := rfl
@[simp] theorem Out.andThen_bk (e : Env) (f : Env → Out) : (Out.bk e).andThen f = .bk e := rfl
@[simp] theorem Out.andThen_ct (e : Env) (f : Env → Out) : (Out.ct e).andThen f = .ct e := rfl
@[simp] theorem Out.andThen_ex (k : Str) (fs : List (Str × D)) (e : Env) (f : Env → Out) : (Out.ex k fs e).andThen f = .ex k fs e := rfl

/-- as data that is only read -/
def Cell.view : Cell → Option D
  | .un => none
  | .d x => some x
  | .own xs => some (.list xs)
  | .own2 xss => some (.list (xss.map .list))
  | .par _ _ => none
  | .exc _ _ _ _ => none
def Cell.items : Cell → Option (List D)
  | .d (.list xs) => some xs
  | .d (.tuple xs) => some xs
  | .own xs => some xs
  | _ => none
def getC (i : Nat) (e : Env) : R Cell := match e[i]? with
  | some .un => .no
  | some (.exc _ _ _ _) => .no
  | some (.par _ xs) => .ok (.own xs)
  | some c => .ok c
  | none => .no
def Cell.val : Cell → R Cell
  | .d x => .ok (.d x)
  | _ => .no
def varD (i : Nat) (e : Env) : R Cell := (getC i e).bind Cell.val
def cstD (x : D) (_ : Env) : R Cell := .ok (.d x)
def freezeC : Cell → Cell
  | .own xs => .d (.list xs)
  | .own2 xss => .d (.list (xss.map .list))
  | c => c
def freeze (i : Nat) (e : Env) : Env := match e[i]? with
  | some c => e.set i (freezeC c)
  | none => e
def intI (f : Int → Int → Int) (x y : Cell) : R Cell := match x, y with
  | .d (.int i), .d (.int j) => .ok (.d (.int (f i j)))
  | _, _ => .no
def intB (f : Int → Int → Bool) (x y : Cell) : R Cell := match x, y with
  | .d (.int i), .d (.int j) => .ok (.d (.bool (f i j)))
  | _, _ => .no
def mulD (x y : Cell) : R Cell := match x, y with
  | .d (.int i), .d (.int j) => if (-(2 ^ 64) < i ∧ i < 2 ^ 64) ∨ (-(2 ^ 64) < j ∧ j < 2 ^ 64) then .ok (.d (.int (i * j))) else .no
  | c, .d (.int k) => match c with
    | .own xs => if -(2 ^ 63) ≤ k ∧ k < 2 ^ 63 ∧ xs.length * k.toNat ≤ 16777216 then .ok (.own (List.replicate k.toNat xs).flatten) else .no
    | _ => .no
  | _, _ => .no
def divD (x y : Cell) : R Cell := match x, y with
  | .d (.int i), .d (.int j) => if 0 < j ∧ j < 1073741824 then .ok (.d (.int (i / j))) else .no
  | _, _ => .no
def modD (x y : Cell) : R Cell := match x, y with
  | .d (.int i), .d (.int j) => if 0 < j then .ok (.d (.int (i % j))) else .no
  | _, _ => .no
def powD (x y : Cell) : R Cell := match x, y with
  | .d (.int i), .d (.int j) => if 0 ≤ j ∧ j ≤ 1000000 ∧ i.natAbs < 2 ^ 64 then .ok (.d (.int (i ^ j.toNat))) else .no
  | _, _ => .no
def negD (x : Cell) : R Cell := match x with
  | .d (.int i) => .ok (.d (.int (-i)))
  | _ => .no
def catL : Cell → Option (List D)
  | .own xs => some xs
  | .d (.list xs) => some xs
  | _ => none
/-- + of ints, texts, tuples, lists -/
def addD (x y : Cell) : R Cell := match x, y with
  | .d (.int i), .d (.int j) => .ok (.d (.int (i + j)))
  | .d (.str s), .d (.str t) => if s.length + t.length ≤ 16777216 then .ok (.d (.str (s ++ t))) else .no
  | .d (.tuple xs), .d (.tuple ys) => if xs.length + ys.length ≤ 16777216 then .ok (.d (.tuple (xs ++ ys))) else .no
  | c, d => match catL c, catL d with
    | some xs, some ys => if xs.length + ys.length ≤ 16777216 then .ok (.own (xs ++ ys)) else .no
    | _, _ => .no
def eqD (x y : Cell) : R Cell := match x.view, y.view with
  | some a, some b => if SeqAt.shaped a = true ∧ SeqAt.shaped b = true then .ok (.d (.bool (PyData.eqv a b))) else .no
  | _, _ => .no
def neD (x y : Cell) : R Cell := match x.view, y.view with
  | some a, some b => if SeqAt.shaped a = true ∧ SeqAt.shaped b = true then .ok (.d (.bool (!PyData.eqv a b))) else .no
  | _, _ => .no
def isNoneD (x : Cell) : R Cell := match x with
  | .un => .no
  | .d .none => .ok (.d (.bool true))
  | _ => .ok (.d (.bool false))
def notNoneD (x : Cell) : R Cell := match x with
  | .un => .no
  | .d .none => .ok (.d (.bool false))
  | _ => .ok (.d (.bool true))
/-- the place of an index -/
def ixD {α : Type} (xs : List α) (i : Int) : Option α := L2.atI xs i
def idxD (x y : Cell) : R Cell := match y with
  | .d (.int i) => match x with
    | .d (.list xs) => match L2.atI xs i with | some v => .ok (.d v) | none => .no
    | .d (.tuple xs) => match L2.atI xs i with | some v => .ok (.d v) | none => .no
    | .own xs => match L2.atI xs i with | some v => .ok (.d v) | none => .no
    | .own2 xss => match L2.atI xss i with | some v => .ok (.own v) | none => .no
    | _ => .no
  | _ => .no
def lenD (x : Cell) : R Cell := match x with
  | .d (.list xs) => .ok (.d (.int xs.length))
  | .d (.tuple xs) => .ok (.d (.int xs.length))
  | .d (.str s) => if s.length ≤ 16777216 then .ok (.d (.int s.length)) else .no
  | .own xs => .ok (.d (.int xs.length))
  | .own2 xss => .ok (.d (.int xss.length))
  | _ => .no
def maxD (x y : Cell) : R Cell := intI (fun i j => if j > i then j else i) x y
def minD (x y : Cell) : R Cell := intI (fun i j => if j < i then j else i) x y
def listD (x : Cell) : R Cell := match x.items with
  | some xs => .ok (.own xs)
  | none => .no
def tupleD (x : Cell) : R Cell := match x.items with
  | some xs => .ok (.d (.tuple xs))
  | none => .no
def cutD {α : Type} (xs : List α) (lo hi : Option Int) : List α := (xs.drop (HT.sIx xs.length 0 lo)).take (HT.sIx xs.length xs.length hi - HT.sIx xs.length 0 lo)
def sliceD (x : Cell) (lo hi : Option Int) : R Cell := match x with
  | .d (.list xs) => .ok (.own (cutD xs lo hi))
  | .own xs => .ok (.own (cutD xs lo hi))
  | .d (.tuple xs) => .ok (.d (.tuple (cutD xs lo hi)))
  | _ => .no
def isiD (n : String) (x : Cell) : R Cell := match x with
  | .un => .no
  | .d .none => .ok (.d (.bool false))
  | .d (.bool _) => .ok (.d (.bool (n == "bool" || n == "int")))
  | .d (.int _) => .ok (.d (.bool (n == "int")))
  | .d (.str _) => .ok (.d (.bool (n == "str")))
  | .d (.list _) => .ok (.d (.bool (n == "list")))
  | .d (.tuple _) => .ok (.d (.bool (n == "tuple")))
  | .d (.dict _) => .no
  | .own _ => .ok (.d (.bool (n == "list")))
  | .own2 _ => .ok (.d (.bool (n == "list")))
  | .par _ _ => .no
  | .exc _ _ _ _ => .no
def asB (x : Cell) : R Bool := match x with
  | .d (.bool b) => .ok b
  | _ => .no
def boolD (b : Bool) : R Cell := .ok (.d (.bool b))
def asD : Cell → R D
  | .d x => .ok x
  | .own xs => .ok (.list xs)
  | .own2 xss => .ok (.list (xss.map .list))
  | .par _ _ => .no
  | .exc _ _ _ _ => .no
  | .un => .no
/-- a value with no place in the heap -/
def Cell.flat : Cell → Bool
  | .d .none => true
  | .d (.bool _) => true
  | .d (.int _) => true
  | .d (.str _) => true
  | _ => false
/-- f over the items, in order -/
def mapR {α β : Type} (f : α → R β) : List α → R (List β)
  | [] => .ok []
  | x :: xs => (f x).bind fun y => (mapR f xs).bind fun ys => .ok (y :: ys)
/-- .. of those for which t holds -/
def mapIf {α β : Type} (t : α → R Bool) (f : α → R β) : List α → R (List β)
  | [] => .ok []
  | x :: xs => (t x).bind fun b => if b = true then (f x).bind fun y => (mapIf t f xs).bind fun ys => .ok (y :: ys) else mapIf t f xs
/-- a for over items -/
def forD (g : D → Env → Out) : List D → Env → Out
  | [], e => .nx e
  | x :: xs, e => match g x e with
    | .nx e' => forD g xs e'
    | .ct e' => forD g xs e'
    | .bk e' => .nx e'
    | o => o
/-- a while: at most n turns -/
def whileD (c : Env → R Bool) (g : Env → Out) : Nat → Env → Out
  | 0, _ => .no
  | n + 1, e => (c e).into e fun b => if b = true then
      (match g e with
      | .nx e' => whileD c g n e'
      | .ct e' => whileD c g n e'
      | .bk e' => .nx e'
      | o => o) else .nx e
def upFrom (lo : Int) (n : Nat) : List D := (List.range n).map fun i => .int (lo + (i : Nat))
def stepFrom (lo c : Int) (n : Nat) : List D := (List.range n).map fun i => .int (lo + (i : Nat) * c)
/-- a range's items -/
def rng1D (x : Cell) : R (List D) := match x with
  | .d (.int j) => if -(2 ^ 62) ≤ j ∧ j < 2 ^ 62 then .ok (upFrom 0 j.toNat) else .no
  | _ => .no
def rng2D (x y : Cell) : R (List D) := match x, y with
  | .d (.int i), .d (.int j) => if -(2 ^ 62) ≤ i ∧ i < 2 ^ 62 ∧ -(2 ^ 62) ≤ j ∧ j < 2 ^ 62 then .ok (upFrom i (j - i).toNat) else .no
  | _, _ => .no
/-- range(i, j, -1) -/
def rngDownD (x y z : Cell) : R (List D) := match x, y, z with
  | .d (.int i), .d (.int j), .d (.int (-1)) => if -(2 ^ 62) ≤ i ∧ i < 2 ^ 62 ∧ -(2 ^ 62) ≤ j ∧ j < 2 ^ 62 then .ok (stepFrom i (-1) (i - j).toNat) else .no
  | _, _, _ => .no
/-- reversed(range(j)) -/
def rngRevD (x : Cell) : R (List D) := match x with
  | .d (.int j) => if -(2 ^ 62) ≤ j ∧ j < 2 ^ 62 then .ok (stepFrom (0 + (((j - 0).toNat : Nat) : Int) - 1) (-1) (j - 0).toNat) else .no
  | _ => .no
def setSlot (i : Nat) (c : Cell) (e : Env) : Env := e.set i c
/-- the slots of a comprehension's own names -/
def wipeC (e : Env) : List Nat → Env
  | [] => e
  | i :: r => (wipeC e r).set i .un
/-- a target: a name, or names of a tuple's items -/
inductive Tg where
  | nm (i : Nat)
  | tp (is : List Nat)
def putAll : List Nat → List D → Env → Env
  | i :: is, x :: xs, e => putAll is xs (e.set i (.d x))
  | _, _, e => e
def Tg.put : Tg → D → Env → Option Env
  | .nm i, x, e => some (e.set i (.d x))
  | .tp is, .tuple xs, e => if xs.length = is.length then some (putAll is xs e) else none
  | .tp _, _, _ => none
def Tg.slots : Tg → List Nat
  | .nm i => [i]
  | .tp is => is
/-- a turn -/
def turnD (t : Tg) (g : Env → Out) (x : D) (e : Env) : Out := match t.put x e with
  | some e' => g e'
  | none => .no
/-- [f for t in xs if c], over the slots vs of its own names -/
def lcD (vs : List Nat) (t : Tg) (c : Env → R Bool) (f : Env → R Cell) (xs : List D) (e : Env) : R (List Cell) :=
  mapIf (fun x => match t.put x (wipeC e vs) with | some e' => c e' | none => .no) (fun x => match t.put x (wipeC e vs) with | some e' => f e' | none => .no) xs
/-- as a list of data -/
def lcL (r : R (List Cell)) : R Cell := match r with
  | .ok cs => match mapR asD cs with
    | .ok ds => if ds.length ≤ 16777216 then .ok (.own ds) else .no
    | _ => .no
  | _ => .no
/-- as a list of own lists -/
def asRow (c : Cell) : R (List D) := match c with
  | .own xs => .ok xs
  | _ => .no
def lcR (r : R (List Cell)) : R Cell := match r with
  | .ok cs => match mapR asRow cs with
    | .ok ds => if ds.length ≤ 16777216 then .ok (.own2 ds) else .no
    | _ => .no
  | _ => .no
def itemsR (c : Cell) : R (List D) := match c.items with
  | some xs => .ok xs
  | none => .no
end DL
/-! ## DL, part 2: cells over the heap, the judgements -/
namespace DL
open PySem PySem.Spec PyProof.Rows L2
variable {K : PySem.W.Frag}
/-! ### data is kept where the heap is kept -/
theorem SqL_mono {H H' : Hp} {a : Addr} {xs : List V} (e : Same H H') (h : SqL K H a xs) : SqL K H' a xs := e.seq h
theorem SqT_mono {H H' : Hp} {a : Addr} {xs : List V} (e : Same H H') (h : SqT K H a xs) : SqT K H' a xs := by
  rcases h with (h | ⟨o, h⟩) | h
  · exact .inl (.inl (e _ _ h))
  · exact .inl (.inr ⟨o, e _ _ h⟩)
  · exact .inr h
mutual
theorem Dp_mono {H H' : Hp} (e : Same H H') : ∀ (d : PyData) (v : V), Dp K H v d → Dp K H' v d
  | .none, _, h => by cases h; exact .non
  | .bool b, _, h => by cases h; exact .bl b
  | .int i, _, h => by cases h; exact .int i
  | .str x, _, h => by cases h; exact .str x
  | .list ds, _, h => by
    cases h with
    | lst hs ha => exact .lst (SqL_mono e hs) (DpAll_mono e ds _ ha)
  | .tuple ds, _, h => by
    cases h with
    | tup hs ha => exact .tup (SqT_mono e hs) (DpAll_mono e ds _ ha)
  | .dict _, _, h => by cases h
theorem DpAll_mono {H H' : Hp} (e : Same H H') : ∀ (ds : List PyData) (vs : List V), DpAll K H vs ds → DpAll K H' vs ds
  | [], _, h => by cases h; exact .nil
  | d :: ds, _, h => by
    cases h with
    | cons h1 h2 => exact .cons (Dp_mono e d _ h1) (DpAll_mono e ds _ h2)
end
theorem DpAll_len {H : Hp} : ∀ {vs : List V} {ds : List PyData}, DpAll K H vs ds → vs.length = ds.length
  | _, _, .nil => rfl
  | _, _, .cons _ h => by rw [List.length_cons, List.length_cons, DpAll_len h]
theorem DpAll_get {H : Hp} : ∀ {vs : List V} {ds : List PyData} {i : Nat} {d : PyData}, DpAll K H vs ds → ds[i]? = some d → ∃ v, vs[i]? = some v ∧ Dp K H v d
  | _, _, _, _, .nil, e => by simp at e
  | _, _, 0, _, .cons h _, e => by
    simp at e
    subst e
    exact ⟨_, rfl, h⟩
  | _, _, i + 1, d, .cons _ h, e => by
    obtain ⟨v, h1, h2⟩ := DpAll_get (i := i) (d := d) h (by simpa using e)
    exact ⟨v, by simpa using h1, h2⟩
theorem DpAll_get' {H : Hp} : ∀ {vs : List V} {ds : List PyData} {i : Nat} {v : V}, DpAll K H vs ds → vs[i]? = some v → ∃ d, ds[i]? = some d ∧ Dp K H v d
  | _, _, _, _, .nil, e => by simp at e
  | _, _, 0, _, .cons h _, e => by
    simp at e
    subst e
    exact ⟨_, rfl, h⟩
  | _, _, i + 1, v, .cons _ h, e => by
    obtain ⟨d, h1, h2⟩ := DpAll_get' (i := i) (v := v) h (by simpa using e)
    exact ⟨d, by simpa using h1, h2⟩
theorem DpAll_set {H : Hp} {x : V} {d : PyData} (r : Dp K H x d) : ∀ {vs : List V} {ds : List PyData} (i : Nat), DpAll K H vs ds → DpAll K H (vs.set i x) (ds.set i d)
  | _, _, _, .nil => .nil
  | _, _, 0, .cons _ t => .cons r t
  | _, _, i + 1, .cons q t => .cons q (DpAll_set r i t)
theorem DpAll_append {H : Hp} : ∀ {vs ws : List V} {ds es : List PyData}, DpAll K H vs ds → DpAll K H ws es → DpAll K H (vs ++ ws) (ds ++ es)
  | _, _, _, _, .nil, s => s
  | _, _, _, _, .cons r t, s => .cons r (DpAll_append t s)
theorem DpAll_take {H : Hp} : ∀ {vs : List V} {ds : List PyData} (n : Nat), DpAll K H vs ds → DpAll K H (vs.take n) (ds.take n)
  | _, _, 0, _ => .nil
  | _, _, _ + 1, .nil => .nil
  | _, _, n + 1, .cons r t => .cons r (DpAll_take n t)
theorem DpAll_drop {H : Hp} : ∀ {vs : List V} {ds : List PyData} (n : Nat), DpAll K H vs ds → DpAll K H (vs.drop n) (ds.drop n)
  | _, _, 0, r => r
  | _, _, _ + 1, .nil => .nil
  | _, _, n + 1, .cons _ t => DpAll_drop n t
theorem DpAll_rep {H : Hp} {vs : List V} {ds : List PyData} (h : DpAll K H vs ds) : ∀ k : Nat, DpAll K H (List.replicate k vs).flatten (List.replicate k ds).flatten
  | 0 => .nil
  | k + 1 => by
    rw [List.replicate_succ, List.replicate_succ, List.flatten_cons, List.flatten_cons]
    exact DpAll_append h (DpAll_rep h k)
theorem Dp_seq {H : Hp} {v : V} {xs : List PyData} (h : Dp K H v (.list xs)) : ∃ a vs, v = .ref a ∧ SqL K H a vs ∧ DpAll K H vs xs := by
  cases h with
  | lst hs ha => exact ⟨_, _, rfl, hs, ha⟩
theorem Dp_tup {H : Hp} {v : V} {xs : List PyData} (h : Dp K H v (.tuple xs)) : ∃ a vs, v = .ref a ∧ SqT K H a vs ∧ DpAll K H vs xs := by
  cases h with
  | tup hs ha => exact ⟨_, _, rfl, hs, ha⟩
theorem Dp_int {H : Hp} {v : V} {i : Int} (h : Dp K H v (.int i)) : v = .int i := by cases h; rfl
theorem Dp_bool {H : Hp} {v : V} {b : Bool} (h : Dp K H v (.bool b)) : v = .bl b := by cases h; rfl
theorem Dp_str {H : Hp} {v : V} {x : Str} (h : Dp K H v (.str x)) : v = .str x := by cases h; rfl
theorem Dp_none {H : Hp} {v : V} (h : Dp K H v .none) : v = .non := by cases h; rfl
/-! ### what is hidden -/
open Classical in
/-- the heap without the objects that somebody owns -/
noncomputable def hide (H : Hp) (O : Addr → Prop) : Hp := fun a => if O a then none else H a
theorem hide_eq {H : Hp} {O : Addr → Prop} {a : Addr} {o : HO} : hide H O a = some o ↔ ¬ O a ∧ H a = some o := by
  unfold hide
  by_cases h : O a
  · simp [h]
  · simp [h]
theorem hide_same {H H' : Hp} {O O' : Addr → Prop} (e : Same H H') (h : ∀ a o, H a = some o → O' a → O a) : Same (hide H O) (hide H' O') := fun a o q => by
  obtain ⟨n, q⟩ := hide_eq.mp q
  exact hide_eq.mpr ⟨fun z => n (h a o q z), e a o q⟩
theorem hide_sub {H : Hp} {O : Addr → Prop} : Same (hide H O) H := fun _ _ q => (hide_eq.mp q).2
/-- rows: own lists, one behind the other -/
def RowsR (K : PySem.W.Frag) (H : Hp) (O : Addr → Prop) : List Addr → List (List D) → Prop
  | [], [] => True
  | a :: as, xs :: xss => (∃ vs, H a = some (.lst vs) ∧ DpAll K (hide H O) vs xs) ∧ RowsR K H O as xss
  | _, _ => False
/-- a cell's value v; os: the objects that are the cell's own; O: all that somebody owns -/
def CellR (K : PySem.W.Frag) (H : Hp) (O : Addr → Prop) (os : List Addr) : Cell → V → Prop
  | .un, _ => False
  | .d x, v => os = [] ∧ Dp K (hide H O) v x
  | .own xs, v => ∃ a vs, v = .ref a ∧ os = [a] ∧ H a = some (.lst vs) ∧ DpAll K (hide H O) vs xs
  | .own2 xss, v => ∃ a as, v = .ref a ∧ os = a :: as ∧ H a = some (.lst (as.map V.ref)) ∧ RowsR K H O as xss
  | .par a xs, v => ∃ vs, v = .ref a ∧ os = [a] ∧ H a = some (.lst vs) ∧ DpAll K (hide H O) vs xs
  | .exc a dd f x, v => ∃ y, v = .ref a ∧ os = [] ∧ hide H O dd = some (.xd [(f, y)]) ∧ Dp K (hide H O) y x
theorem RowsR_mono {H H' : Hp} {O O' : Addr → Prop} (s : Same H H') (h : ∀ a o, H a = some o → O' a → O a) : ∀ {as : List Addr} {xss : List (List D)}, RowsR K H O as xss → RowsR K H' O' as xss
  | [], [], _ => trivial
  | a :: as, xs :: xss, ⟨⟨vs, e, q⟩, r⟩ => ⟨⟨vs, s _ _ e, DpAll_mono (hide_same s h) _ _ q⟩, RowsR_mono s h r⟩
  | [], _ :: _, r => r.elim
  | _ :: _, [], r => r.elim
theorem CellR_mono {H H' : Hp} {O O' : Addr → Prop} {os : List Addr} {c : Cell} {v : V} (s : Same H H') (h : ∀ a o, H a = some o → O' a → O a) (r : CellR K H O os c v) : CellR K H' O' os c v := by
  cases c with
  | un => exact r
  | d x => exact ⟨r.1, Dp_mono (hide_same s h) _ _ r.2⟩
  | own xs =>
    obtain ⟨a, vs, e1, e2, e3, q⟩ := r
    exact ⟨a, vs, e1, e2, s _ _ e3, DpAll_mono (hide_same s h) _ _ q⟩
  | own2 xss =>
    obtain ⟨a, as, e1, e2, e3, q⟩ := r
    exact ⟨a, as, e1, e2, s _ _ e3, RowsR_mono s h q⟩
  | par a xs =>
    obtain ⟨vs, e1, e2, e3, q⟩ := r
    exact ⟨vs, e1, e2, s _ _ e3, DpAll_mono (hide_same s h) _ _ q⟩
  | exc a dd f x =>
    obtain ⟨y, e1, e2, e3, q⟩ := r
    exact ⟨y, e1, e2, hide_same s h _ _ e3, Dp_mono (hide_same s h) _ _ q⟩
theorem RowsR_len {H : Hp} {O : Addr → Prop} : ∀ {as : List Addr} {xss : List (List D)}, RowsR K H O as xss → as.length = xss.length
  | [], [], _ => rfl
  | a :: as, xs :: xss, ⟨_, r⟩ => by rw [List.length_cons, List.length_cons, RowsR_len r]
  | [], _ :: _, r => r.elim
  | _ :: _, [], r => r.elim
theorem RowsR_get {H : Hp} {O : Addr → Prop} : ∀ {as : List Addr} {xss : List (List D)} {i : Nat} {xs : List D}, RowsR K H O as xss → xss[i]? = some xs → ∃ a vs, as[i]? = some a ∧ H a = some (.lst vs) ∧ DpAll K (hide H O) vs xs
  | [], [], _, _, _, e => by simp at e
  | a :: as, xs :: xss, 0, ys, ⟨⟨vs, e1, q⟩, r⟩, e => by
    simp at e
    subst e
    exact ⟨a, vs, rfl, e1, q⟩
  | a :: as, xs :: xss, i + 1, ys, ⟨_, r⟩, e => by
    obtain ⟨b, vs, e1, e2, e3⟩ := RowsR_get (i := i) (xs := ys) r (by simpa using e)
    exact ⟨b, vs, by simpa using e1, e2, e3⟩
  | [], _ :: _, _, _, r, _ => r.elim
  | _ :: _, [], _, _, r, _ => r.elim
/-- as data that is read, in the whole heap -/
theorem RowsR_view {H : Hp} {O : Addr → Prop} : ∀ {as : List Addr} {xss : List (List D)}, RowsR K H O as xss → DpAll K H (as.map V.ref) (xss.map PyData.list)
  | [], [], _ => .nil
  | a :: as, xs :: xss, ⟨⟨vs, e1, q⟩, r⟩ => .cons (.lst (SqL.of e1) (DpAll_mono hide_sub _ _ q)) (RowsR_view r)
  | [], _ :: _, r => r.elim
  | _ :: _, [], r => r.elim
theorem CellR_view {H : Hp} {O : Addr → Prop} {os : List Addr} {c : Cell} {v : V} {x : D} (r : CellR K H O os c v) (e : c.view = some x) : Dp K H v x := by
  cases c with
  | un => cases e
  | d y =>
    cases e
    exact Dp_mono hide_sub _ _ r.2
  | own xs =>
    cases e
    obtain ⟨a, vs, rfl, _, e3, q⟩ := r
    exact .lst (SqL.of e3) (DpAll_mono hide_sub _ _ q)
  | own2 xss =>
    cases e
    obtain ⟨a, as, rfl, _, e3, q⟩ := r
    exact .lst (SqL.of e3) (RowsR_view q)
  | par _ _ => cases e
  | exc _ _ _ _ => cases e
/-- the items of a list or a tuple -/
theorem CellR_items {H : Hp} {O : Addr → Prop} {os : List Addr} {c : Cell} {v : V} {xs : List D} (r : CellR K H O os c v) (e : c.items = some xs) : ∃ a vs, v = .ref a ∧ (SqL K H a vs ∨ SqT K H a vs) ∧ DpAll K (hide H O) vs xs := by
  cases c with
  | un => cases e
  | d y =>
    cases y with
    | list ys =>
      cases e
      obtain ⟨a, vs, e1, e2, e3⟩ := Dp_seq r.2
      exact ⟨a, vs, e1, .inl (SqL_mono hide_sub e2), e3⟩
    | tuple ys =>
      cases e
      obtain ⟨a, vs, e1, e2, e3⟩ := Dp_tup r.2
      exact ⟨a, vs, e1, .inr (SqT_mono hide_sub e2), e3⟩
    | _ => cases e
  | own ys =>
    cases e
    obtain ⟨a, vs, rfl, _, e3, q⟩ := r
    exact ⟨a, vs, rfl, .inl (SqL.of e3), q⟩
  | own2 xss => cases e
  | par _ _ => cases e
  | exc _ _ _ _ => cases e
/-! ### the frame's cells -/
/-- all that is owned: by others (O0), by the slots -/
def tO (O0 : Addr → Prop) (own : Nat → List Addr) : Addr → Prop := fun a => O0 a ∨ ∃ i, a ∈ own i
/-- what slot i holds, told by c -/
def SlotR (K : PySem.W.Frag) (H : Hp) (O : Addr → Prop) (os : List Addr) (c : Cell) (x : Option (Option V)) : Prop :=
  match c with
  | .un => True
  | c => ∃ v, x = some (some v) ∧ CellR K H O os c v
structure EnvOk (K : PySem.W.Frag) (H0 H : Hp) (O0 : Addr → Prop) (own : Nat → List Addr) (σ : L2.St) (env : Env) : Prop where
  same : Same H0 H
  len : σ.length = env.length
  cell : ∀ i c, env[i]? = some c → SlotR K H (tO O0 own) (own i) c σ[i]?
  th : ∀ i a, a ∈ own i → ∃ o, H a = some o
  nd : ∀ i, (own i).Nodup
  dj : ∀ i j a, i ≠ j → a ∈ own i → a ∉ own j
  fresh : ∀ i a, a ∈ own i → H0 a = none
  o0 : ∀ a, O0 a → ∃ o, H0 a = some o
theorem SlotR_mono {H H' : Hp} {O O' : Addr → Prop} {os : List Addr} {c : Cell} {x : Option (Option V)} (s : Same H H') (h : ∀ a o, H a = some o → O' a → O a) (r : SlotR K H O os c x) : SlotR K H' O' os c x := by
  cases c with
  | un => exact r
  | d _ =>
    obtain ⟨v, e, q⟩ := r
    exact ⟨v, e, CellR_mono s h q⟩
  | own _ =>
    obtain ⟨v, e, q⟩ := r
    exact ⟨v, e, CellR_mono s h q⟩
  | own2 _ =>
    obtain ⟨v, e, q⟩ := r
    exact ⟨v, e, CellR_mono s h q⟩
  | par _ _ =>
    obtain ⟨v, e, q⟩ := r
    exact ⟨v, e, CellR_mono s h q⟩
  | exc _ _ _ _ =>
    obtain ⟨v, e, q⟩ := r
    exact ⟨v, e, CellR_mono s h q⟩
section
variable {H0 H H' : Hp} {O0 : Addr → Prop} {own : Nat → List Addr} {σ : L2.St} {env : Env}
theorem EnvOk.mono (E : EnvOk K H0 H O0 own σ env) (s : Same H H') : EnvOk K H0 H' O0 own σ env :=
  ⟨E.same.trans s, E.len, fun i c e => SlotR_mono s (fun _ _ _ z => z) (E.cell i c e), fun i a ha => let ⟨o, e⟩ := E.th i a ha; ⟨o, s _ _ e⟩, E.nd, E.dj, E.fresh, E.o0⟩
/-- a slot that holds something -/
theorem EnvOk.get (E : EnvOk K H0 H O0 own σ env) {i : Nat} {c : Cell} (e : env[i]? = some c) (n : c ≠ .un) : ∃ v, σ[i]? = some (some v) ∧ CellR K H (tO O0 own) (own i) c v := by
  have r := E.cell i c e
  cases c with
  | un => exact absurd rfl n
  | d _ => exact r
  | own _ => exact r
  | own2 _ => exact r
  | par _ _ => exact r
  | exc _ _ _ _ => exact r
theorem RowsR_there {H : Hp} {O : Addr → Prop} : ∀ {as : List Addr} {xss : List (List D)}, RowsR K H O as xss → ∀ b ∈ as, ∃ o, H b = some o
  | [], [], _, b, hb => by cases hb
  | a :: as, xs :: xss, ⟨⟨vs, e, _⟩, r⟩, b, hb => by
    cases hb with
    | head => exact ⟨_, e⟩
    | tail _ hb => exact RowsR_there r b hb
  | [], _ :: _, r, _, _ => r.elim
  | _ :: _, [], r, _, _ => r.elim
theorem CellR_there {H : Hp} {O : Addr → Prop} {os : List Addr} {c : Cell} {v : V} (r : CellR K H O os c v) : ∀ b ∈ os, ∃ o, H b = some o := fun b hb => by
  cases c with
  | un => exact r.elim
  | d x =>
    rw [r.1] at hb
    cases hb
  | own xs =>
    obtain ⟨a, vs, e1, e2, e3, q⟩ := r
    rw [e2] at hb
    cases hb with
    | head => exact ⟨_, e3⟩
    | tail _ hb => cases hb
  | own2 xss =>
    obtain ⟨a, as, e1, e2, e3, q⟩ := r
    rw [e2] at hb
    cases hb with
    | head => exact ⟨_, e3⟩
    | tail _ hb => exact RowsR_there q b hb
  | par a xs =>
    obtain ⟨vs, e1, e2, e3, q⟩ := r
    rw [e2] at hb
    cases hb with
    | head => exact ⟨_, e3⟩
    | tail _ hb => cases hb
  | exc a dd f x =>
    obtain ⟨y, e1, e2, e3, q⟩ := r
    rw [e2] at hb
    cases hb
theorem EnvOk.there (E : EnvOk K H0 H O0 own σ env) {i : Nat} {a : Addr} (h : a ∈ own i) : ∃ o, H a = some o := E.th i a h
theorem EnvOk.thereO (E : EnvOk K H0 H O0 own σ env) : ∀ a, tO O0 own a → ∃ o, H a = some o := fun a h => by
  rcases h with h | ⟨i, h⟩
  · obtain ⟨o, e⟩ := E.o0 a h
    exact ⟨o, E.same _ _ e⟩
  · exact E.there h
def ownSet (own : Nat → List Addr) (i : Nat) (os : List Addr) : Nat → List Addr := fun j => if j = i then os else own j
/-- slot i gets a new cell; what it owned is nobody's -/
theorem EnvOk.set (E : EnvOk K H0 H O0 own σ env) {i : Nat} {os : List Addr} {c : Cell} {x : Option V} (hi : i < env.length) (hs : Same H0 H') (s : ∀ a o, H a = some o → ¬ tO O0 own a → H' a = some o)
    (so : ∀ j a o, j ≠ i → a ∈ own j → H a = some o → H' a = some o)
    (te : ∀ a ∈ os, ∃ o, H' a = some o) (f0 : ∀ a ∈ os, H0 a = none) (fo : ∀ a ∈ os, H a = none ∨ a ∈ own i) (nd : os.Nodup) (r : SlotR K H' (tO O0 (ownSet own i os)) os c (some x)) :
    EnvOk K H0 H' O0 (ownSet own i os) (σ.set i x) (env.set i c) := by
  have big : ∀ a o, H a = some o → tO O0 (ownSet own i os) a → tO O0 own a := fun a o e z => by
    rcases z with z | ⟨j, z⟩
    · exact .inl z
    · unfold ownSet at z
      by_cases hj : j = i
      · rw [if_pos hj] at z
        rcases fo a z with q | q
        · rw [e] at q; cases q
        · exact .inr ⟨i, q⟩
      · rw [if_neg hj] at z
        exact .inr ⟨j, z⟩
  have hs' : Same (hide H (tO O0 own)) (hide H' (tO O0 (ownSet own i os))) := fun a o q => by
    obtain ⟨n, q⟩ := hide_eq.mp q
    exact hide_eq.mpr ⟨fun z => n (big a o q z), s a o q n⟩
  have rows : ∀ (as : List Addr) (xss : List (List D)), (∀ b ∈ as, ∀ o, H b = some o → H' b = some o) → RowsR K H (tO O0 own) as xss → RowsR K H' (tO O0 (ownSet own i os)) as xss := by
    intro as
    induction as with
    | nil =>
      intro xss _ q
      cases xss with
      | nil => trivial
      | cons _ _ => exact q.elim
    | cons b as ih =>
      intro xss k q
      cases xss with
      | nil => exact q.elim
      | cons xs xss =>
        obtain ⟨⟨vs, e, q1⟩, q2⟩ := q
        exact ⟨⟨vs, k b List.mem_cons_self _ e, DpAll_mono hs' _ _ q1⟩, ih xss (fun b' hb => k b' (List.mem_cons_of_mem _ hb)) q2⟩
  refine ⟨hs, by rw [List.length_set, List.length_set]; exact E.len, fun j d e => ?_, fun j a e => ?_, fun j => ?_, fun j k a hjk ha hb => ?_, fun j a ha => ?_, E.o0⟩
  · by_cases hj : j = i
    · subst hj
      rw [List.getElem?_set_self hi] at e
      cases e
      rw [List.getElem?_set_self (by rw [E.len]; exact hi)]
      have ee : ownSet own j os j = os := if_pos rfl
      rw [ee]
      exact r
    · rw [List.getElem?_set_ne (Ne.symm hj)] at e ⊢
      have ee : ownSet own i os j = own j := if_neg hj
      rw [ee]
      have q := E.cell j d e
      cases d with
      | un => exact q
      | d x =>
        obtain ⟨v, e1, e2, e3⟩ := q
        exact ⟨v, e1, e2, Dp_mono hs' _ _ e3⟩
      | own xs =>
        obtain ⟨v, e1, a, vs, e2, e3, e4, e5⟩ := q
        exact ⟨v, e1, a, vs, e2, e3, so j a _ hj (by rw [e3]; exact List.mem_cons_self) e4, DpAll_mono hs' _ _ e5⟩
      | own2 xss =>
        obtain ⟨v, e1, a, as, e2, e3, e4, e5⟩ := q
        exact ⟨v, e1, a, as, e2, e3, so j a _ hj (by rw [e3]; exact List.mem_cons_self) e4, rows _ _ (fun b hb o e6 => so j b o hj (by rw [e3]; exact List.mem_cons_of_mem _ hb) e6) e5⟩
      | par a xs =>
        obtain ⟨v, e1, vs, e2, e3, e4, e5⟩ := q
        exact ⟨v, e1, vs, e2, e3, so j a _ hj (by rw [e3]; exact List.mem_cons_self) e4, DpAll_mono hs' _ _ e5⟩
      | exc a dd f x =>
        obtain ⟨v, e1, y, e2, e3, e4, e5⟩ := q
        exact ⟨v, e1, y, e2, e3, hs' _ _ e4, Dp_mono hs' _ _ e5⟩
  · unfold ownSet at e
    by_cases hj : j = i
    · rw [if_pos hj] at e
      exact te a e
    · rw [if_neg hj] at e
      obtain ⟨o, q⟩ := E.th j a e
      exact ⟨o, so j a o hj e q⟩
  · unfold ownSet
    by_cases hj : j = i
    · rw [if_pos hj]; exact nd
    · rw [if_neg hj]; exact E.nd j
  · unfold ownSet at ha hb
    by_cases hj : j = i
    · rw [if_pos hj] at ha
      have hk : k ≠ i := fun z => hjk (hj.trans z.symm)
      rw [if_neg hk] at hb
      rcases fo a ha with q | q
      · obtain ⟨o, e⟩ := E.there hb
        rw [e] at q; cases q
      · exact E.dj i k a (Ne.symm hk) q hb
    · rw [if_neg hj] at ha
      by_cases hk : k = i
      · rw [if_pos hk] at hb
        rcases fo a hb with q | q
        · obtain ⟨o, e⟩ := E.there ha
          rw [e] at q; cases q
        · exact E.dj i j a (Ne.symm hj) q ha
      · rw [if_neg hk] at hb
        exact E.dj j k a hjk ha hb
  · unfold ownSet at ha
    by_cases hj : j = i
    · rw [if_pos hj] at ha
      exact f0 a ha
    · rw [if_neg hj] at ha
      exact E.fresh j a ha
/-- what everybody may read is kept -/
theorem hide_set {i : Nat} {os : List Addr} (s : ∀ a o, H a = some o → ¬ tO O0 own a → H' a = some o) (fo : ∀ a ∈ os, H a = none ∨ a ∈ own i) : Same (hide H (tO O0 own)) (hide H' (tO O0 (ownSet own i os))) := fun a o q => by
  obtain ⟨n, q⟩ := hide_eq.mp q
  refine hide_eq.mpr ⟨fun z => n ?_, s a o q n⟩
  rcases z with z | ⟨j, z⟩
  · exact .inl z
  · unfold ownSet at z
    by_cases hj : j = i
    · rw [if_pos hj] at z
      rcases fo a z with w | w
      · rw [q] at w; cases w
      · exact .inr ⟨i, w⟩
    · rw [if_neg hj] at z
      exact .inr ⟨j, z⟩
end
end DL
/-! ## DL, part 3: expressions -/
namespace DL
open PySem PySem.Spec PyProof.Rows L2
/-- a cell that is looked at -/
def PeekR (K : PySem.W.Frag) (H : Hp) (O : Addr → Prop) (c : Cell) (v : V) : Prop := ∃ os, CellR K H O os c v
theorem PeekR_mono {K : PySem.W.Frag} {H H' : Hp} {O O' : Addr → Prop} {c : Cell} {v : V} (s : Same H H') (h : ∀ a o, H a = some o → O' a → O a) (r : PeekR K H O c v) : PeekR K H' O' c v :=
  let ⟨os, q⟩ := r; ⟨os, CellR_mono s h q⟩
/-- the fields of an exception -/
def FldsR (K : PySem.W.Frag) (H : Hp) : List (Str × V) → List (Str × D) → Prop
  | [], [] => True
  | p :: ps, q :: qs => p.1 = q.1 ∧ Dp K H p.2 q.2 ∧ FldsR K H ps qs
  | _, _ => False
/-- an exception: of the class that the module's name k holds; its fields -/
def ExcR (K : PySem.W.Frag) (mg : Str → Option Value) (H : Hp) (cls : Value) (d : Option Addr) (k : Str) (fs : List (Str × D)) : Prop :=
  (∃ C, mg k = some (.ref C) ∧ cls = .ref C) ∧ ((fs = [] ∧ d = none) ∨ ∃ dd vs, d = some dd ∧ H dd = some (.xd vs) ∧ FldsR K H vs fs)
theorem FldsR_mono {K : PySem.W.Frag} {H H' : Hp} (s : Same H H') : ∀ {vs : List (Str × V)} {fs : List (Str × D)}, FldsR K H vs fs → FldsR K H' vs fs
  | [], [], _ => trivial
  | _ :: _, _ :: _, ⟨e, q, r⟩ => ⟨e, Dp_mono s _ _ q, FldsR_mono s r⟩
  | [], _ :: _, r => r.elim
  | _ :: _, [], r => r.elim
theorem ExcR_mono {K : PySem.W.Frag} {mg : Str → Option Value} {H H' : Hp} (s : Same H H') {cls : Value} {d : Option Addr} {k : Str} {fs : List (Str × D)} (r : ExcR K mg H cls d k fs) : ExcR K mg H' cls d k fs := by
  obtain ⟨h1, h2⟩ := r
  refine ⟨h1, ?_⟩
  rcases h2 with h2 | ⟨dd, vs, e1, e2, e3⟩
  · exact .inl h2
  · exact .inr ⟨dd, vs, e1, s _ _ e2, FldsR_mono s e3⟩
/-- what is handed on of a result -/
def Hand (K : PySem.W.Frag) (mg : Str → Option Value) (W : WX) (O : Addr → Prop) (H : Hp) (σ : L2.St) (r : R Cell) (Q : VK) : Prop :=
  match r with
  | .no => False
  | .ok c => ∀ v H' os, Same H H' → (∀ a ∈ os, H a = none) → os.Nodup → CellR K H' (fun a => O a ∨ a ∈ os) os c v → Q v H'
  | .ex k fs => ∀ H' cls d, Same H H' → ExcR K mg (hide H' O) cls d k fs → W cls d σ H'
/-- .. that is looked at -/
def HandP (K : PySem.W.Frag) (mg : Str → Option Value) (W : WX) (O : Addr → Prop) (H : Hp) (σ : L2.St) (r : R Cell) (Q : VK) : Prop :=
  match r with
  | .no => False
  | .ok c => ∀ v H', Same H H' → PeekR K H' O c v → Q v H'
  | .ex k fs => ∀ H' cls d, Same H H' → ExcR K mg (hide H' O) cls d k fs → W cls d σ H'
theorem Hand.mono {K : PySem.W.Frag} {mg : Str → Option Value} {W : WX} {O : Addr → Prop} {H H1 : Hp} {σ : L2.St} {r : R Cell} {Q : VK} (s : Same H H1) (h : Hand K mg W O H σ r Q) : Hand K mg W O H1 σ r Q := by
  cases r with
  | no => exact h
  | ok c => exact fun v H' os s' f nd q => h v H' os (s.trans s') (fun a ha => s.free (f a ha)) nd q
  | ex k fs => exact fun H' cls d s' q => h H' cls d (s.trans s') q
theorem HandP.mono {K : PySem.W.Frag} {mg : Str → Option Value} {W : WX} {O : Addr → Prop} {H H1 : Hp} {σ : L2.St} {r : R Cell} {Q : VK} (s : Same H H1) (h : HandP K mg W O H σ r Q) : HandP K mg W O H1 σ r Q := by
  cases r with
  | no => exact h
  | ok c => exact fun v H' s' q => h v H' (s.trans s') q
  | ex k fs => exact fun H' cls d s' q => h H' cls d (s.trans s') q
/-- a value that needs no place -/
theorem Hand.dat {K : PySem.W.Frag} {mg : Str → Option Value} {W : WX} {O : Addr → Prop} {H : Hp} {σ : L2.St} {x : D} {v : V} {Q : VK} (h : Hand K mg W O H σ (.ok (.d x)) Q) (q : Dp K (hide H O) v x) : Q v H := by
  refine h v H [] (Same.refl H) (fun a ha => by cases ha) List.nodup_nil ⟨rfl, ?_⟩
  exact Dp_mono (hide_same (Same.refl H) fun a o _ z => by
    rcases z with z | z
    · exact z
    · cases z) _ _ q
theorem CellR_O {K : PySem.W.Frag} {H : Hp} {O : Addr → Prop} {os : List Addr} {c : Cell} {v : V} (h : CellR K H (fun a => O a ∨ a ∈ os) os c v) : PeekR K H O c v := ⟨os, CellR_mono (Same.refl H) (fun _ _ _ z => .inl z) h⟩
/-- the frame's reading of an expression -/
def teD (K : PySem.W.Frag) (mg : Str → Option Value) (W : WX) (f : Env → R Cell) : TE := fun σ H Q => ∃ H0 O0 own env, EnvOk K H0 H O0 own σ env ∧ Hand K mg W (tO O0 own) H σ (f env) Q
def tpD (K : PySem.W.Frag) (mg : Str → Option Value) (W : WX) (f : Env → R Cell) : TE := fun σ H Q => ∃ H0 O0 own env, EnvOk K H0 H O0 own σ env ∧ HandP K mg W (tO O0 own) H σ (f env) Q
/-- a test -/
def HandT (K : PySem.W.Frag) (mg : Str → Option Value) (W : WX) (O : Addr → Prop) (H : Hp) (σ : L2.St) (r : R Bool) (Q : Bool → Hp → Prop) : Prop :=
  match r with
  | .no => False
  | .ok b => ∀ H', Same H H' → Q b H'
  | .ex k fs => ∀ H' cls d, Same H H' → ExcR K mg (hide H' O) cls d k fs → W cls d σ H'
theorem HandT.mono {K : PySem.W.Frag} {mg : Str → Option Value} {W : WX} {O : Addr → Prop} {H H1 : Hp} {σ : L2.St} {r : R Bool} {Q : Bool → Hp → Prop} (s : Same H H1) (h : HandT K mg W O H σ r Q) : HandT K mg W O H1 σ r Q := by
  cases r with
  | no => exact h
  | ok c => exact fun H' s' => h H' (s.trans s')
  | ex k fs => exact fun H' cls d s' q => h H' cls d (s.trans s') q
def ttD (K : PySem.W.Frag) (mg : Str → Option Value) (W : WX) (f : Env → R Bool) : TT := fun σ H Q => ∃ H0 O0 own env, EnvOk K H0 H O0 own σ env ∧ HandT K mg W (tO O0 own) H σ (f env) Q
/-- arguments: data -/
def HandA (K : PySem.W.Frag) (mg : Str → Option Value) (W : WX) (O : Addr → Prop) (H : Hp) (σ : L2.St) (r : R (List D)) (Q : List V → Hp → Prop) : Prop :=
  match r with
  | .no => False
  | .ok ds => ∀ vs H', Same H H' → DpAll K (hide H' O) vs ds → Q vs H'
  | .ex k fs => ∀ H' cls d, Same H H' → ExcR K mg (hide H' O) cls d k fs → W cls d σ H'
theorem HandA.mono {K : PySem.W.Frag} {mg : Str → Option Value} {W : WX} {O : Addr → Prop} {H H1 : Hp} {σ : L2.St} {r : R (List D)} {Q : List V → Hp → Prop} (s : Same H H1) (h : HandA K mg W O H σ r Q) : HandA K mg W O H1 σ r Q := by
  cases r with
  | no => exact h
  | ok c => exact fun v H' s' q => h v H' (s.trans s') q
  | ex k fs => exact fun H' cls d s' q => h H' cls d (s.trans s') q
def taD (K : PySem.W.Frag) (mg : Str → Option Value) (W : WX) (f : Env → R (List D)) : TA := fun σ H Q => ∃ H0 O0 own env, EnvOk K H0 H O0 own σ env ∧ HandA K mg W (tO O0 own) H σ (f env) Q
/-- arguments that are looked at -/
def PeekAll (K : PySem.W.Frag) (H : Hp) (O : Addr → Prop) : List Cell → List V → Prop
  | [], [] => True
  | c :: cs, v :: vs => PeekR K H O c v ∧ PeekAll K H O cs vs
  | _, _ => False
theorem PeekAll_mono {K : PySem.W.Frag} {H H' : Hp} {O O' : Addr → Prop} (s : Same H H') (h : ∀ a o, H a = some o → O' a → O a) : ∀ {cs : List Cell} {vs : List V}, PeekAll K H O cs vs → PeekAll K H' O' cs vs
  | [], [], _ => trivial
  | _ :: _, _ :: _, ⟨q, r⟩ => ⟨PeekR_mono s h q, PeekAll_mono s h r⟩
  | [], _ :: _, r => r.elim
  | _ :: _, [], r => r.elim
def HandC (K : PySem.W.Frag) (mg : Str → Option Value) (W : WX) (O : Addr → Prop) (H : Hp) (σ : L2.St) (r : R (List Cell)) (Q : List V → Hp → Prop) : Prop :=
  match r with
  | .no => False
  | .ok ds => ∀ vs H', Same H H' → PeekAll K H' O ds vs → Q vs H'
  | .ex k fs => ∀ H' cls d, Same H H' → ExcR K mg (hide H' O) cls d k fs → W cls d σ H'
def tcD (K : PySem.W.Frag) (mg : Str → Option Value) (W : WX) (f : Env → R (List Cell)) : TA := fun σ H Q => ∃ H0 O0 own env, EnvOk K H0 H O0 own σ env ∧ HandC K mg W (tO O0 own) H σ (f env) Q
/-! ### weaker readings -/
theorem PE.imp {X : Cx} {e : Expr} {t t' : TE} (h : PE X e t) (i : ∀ σ H Q, t' σ H Q → t σ H Q) : PE X e t' := ⟨fun pins s σ H Q I q => h.run pins s σ H Q I (i _ _ _ q)⟩
theorem PT.imp {X : Cx} {e : Expr} {t t' : TT} (h : PT X e t) (i : ∀ σ H Q, t' σ H Q → t σ H Q) : PT X e t' := ⟨fun pins s σ H Q I q => h.run pins s σ H Q I (i _ _ _ q)⟩
theorem PW.imp {X : Cx} {e : Expr} {t t' : TT} (h : PW X e t) (i : ∀ σ H Q, t' σ H Q → t σ H Q) : PW X e t' := ⟨fun wh pins s σ H Q I q => h.run wh pins s σ H Q I (i _ _ _ q)⟩
theorem PA.imp {X : Cx} {e : List Expr} {t t' : TA} (h : PA X e t) (i : ∀ σ H Q, t' σ H Q → t σ H Q) : PA X e t' := ⟨fun pos pins s σ H Q I q => h.run pos pins s σ H Q I (i _ _ _ q)⟩
theorem PS.imp {X : Cx} {e : Stmt} {t t' : TS} (h : PS X e t) (i : ∀ D σ H, t' D σ H → t D σ H) : PS X e t' := ⟨fun pins s σ H D I q => h.run pins s σ H D I (i _ _ _ q)⟩
theorem PSs.imp {X : Cx} {e : List Stmt} {t t' : TS} (h : PSs X e t) (i : ∀ D σ H, t' D σ H → t D σ H) : PSs X e t' := ⟨fun pins s σ H D I q => h.run pins s σ H D I (i _ _ _ q)⟩
section
variable {X : Cx} {W : WX} {e a b c : Expr} {fa fb fc : Env → R Cell} {pos : Pos}
theorem look_te {K : PySem.W.Frag} {mg : Str → Option Value} {f : Env → R Cell} : ∀ σ H Q, tpD K mg W f σ H Q → teD K mg W f σ H Q := fun σ H Q ⟨H0, O0, own, env, E, h⟩ => by
  refine ⟨H0, O0, own, env, E, ?_⟩
  cases q : f env with
  | no => rw [q] at h; exact h
  | ok c =>
    rw [q] at h
    exact fun v H' os s _ _ r => h v H' s (CellR_O r)
  | ex k fs => rw [q] at h; exact h
/-- a value may be looked at -/
theorem dp_of (h : PE X e (teD X.K X.mg W fa)) : PE X e (tpD X.K X.mg W fa) := PE.imp h look_te
/-- what is looked at, if it is data, is a value -/
theorem de_of (h : PE X e (tpD X.K X.mg W fa)) : PE X e (teD X.K X.mg W fun en => (fa en).bind Cell.val) := PE.imp h fun σ H Q ⟨H0, O0, own, env, E, h⟩ => by
  refine ⟨H0, O0, own, env, E, ?_⟩
  cases q : fa env with
  | no =>
    simp only [q, R.bind_no] at h
    exact h
  | ok c =>
    simp only [q, R.bind_ok] at h
    intro v H' s r
    obtain ⟨os, r⟩ := r
    cases c with
    | d x =>
      exact Hand.dat (Hand.mono s h) r.2
    | un => exact h.elim
    | own _ => exact h.elim
    | own2 _ => exact h.elim
    | par _ _ => exact h.elim
    | exc _ _ _ _ => exact h.elim
  | ex k fs =>
    simp only [q, R.bind_ex] at h
    exact h
/-- the name in slot i -/
theorem dp_var (i : Nat) {x : Str} (hN : X.N[i]? = some x := by rfl) (hv : Vis X.env.scope x := by first | exact Or.inl rfl | exact Or.inr (Or.inl rfl) | exact Or.inr (Or.inr rfl)) (hd : (x == ("__debug__" : Str)) = false := by decide)
    (hcd : (x == ("__classdict__" : Str)) = false := by decide) : PE X (.Name x pos) (tpD X.K X.mg W (getC i)) := PE.imp (pe_var hN hv hd hcd) fun σ H Q ⟨H0, O0, own, env, E, h⟩ => by
  unfold getC at h
  cases q : env[i]? with
  | none =>
    simp only [q] at h
    exact h.elim
  | some c =>
    simp only [q] at h
    cases c with
    | un => exact h.elim
    | exc _ _ _ _ => exact h.elim
    | par a xs =>
      obtain ⟨v, e1, vs, e2, e3, e4, e5⟩ := E.get q (by intro z; cases z)
      exact ⟨v, e1, h v H (Same.refl H) ⟨_, a, vs, e2, e3, e4, e5⟩⟩
    | d x =>
      obtain ⟨v, e1, e2⟩ := E.get q (by intro z; cases z)
      exact ⟨v, e1, h v H (Same.refl H) ⟨_, e2⟩⟩
    | own xs =>
      obtain ⟨v, e1, e2⟩ := E.get q (by intro z; cases z)
      exact ⟨v, e1, h v H (Same.refl H) ⟨_, e2⟩⟩
    | own2 xss =>
      obtain ⟨v, e1, e2⟩ := E.get q (by intro z; cases z)
      exact ⟨v, e1, h v H (Same.refl H) ⟨_, e2⟩⟩
theorem de_var (i : Nat) {x : Str} (hN : X.N[i]? = some x := by rfl) (hv : Vis X.env.scope x := by first | exact Or.inl rfl | exact Or.inr (Or.inl rfl) | exact Or.inr (Or.inr rfl)) (hd : (x == ("__debug__" : Str)) = false := by decide)
    (hcd : (x == ("__classdict__" : Str)) = false := by decide) : PE X (.Name x pos) (teD X.K X.mg W (varD i)) := de_of (dp_var i hN hv hd hcd)
theorem de_cst {v : V} {x : D} (h : PE X e (tC v)) (q : ∀ H, Dp X.K H v x) : PE X e (teD X.K X.mg W (cstD x)) := PE.imp h fun σ H Q ⟨H0, O0, own, env, E, h⟩ => Hand.dat (x := x) h (q _)
theorem de_int {i : Int} {j} : PE X (.Constant (.int i) j pos) (teD X.K X.mg W (cstD (.int i))) := de_cst pe_int fun _ => .int i
theorem de_bl {i : Bool} {j} : PE X (.Constant (.bool i) j pos) (teD X.K X.mg W (cstD (.bool i))) := de_cst pe_bl fun _ => .bl i
theorem de_non {j} : PE X (.Constant .none j pos) (teD X.K X.mg W (cstD .none)) := de_cst pe_non fun _ => .non
theorem de_str {x : Str} {j} : PE X (.Constant (.str x) j pos) (teD X.K X.mg W (cstD (.str x))) := de_cst pe_str fun _ => .str x
/-! ### operations on what is looked at -/
def Op1 (K : PySem.W.Frag) (r : V → Hp → VK → Prop) (op : Cell → R Cell) : Prop :=
  ∀ (mg : Str → Option Value) (W : WX) (O : Addr → Prop) (H : Hp) (σ : L2.St) (c : Cell) (v : V) (Q : VK), (∀ a, O a → ∃ o, H a = some o) → PeekR K H O c v → Hand K mg W O H σ (op c) Q → r v H Q
def Op2 (K : PySem.W.Frag) (r : R2) (op : Cell → Cell → R Cell) : Prop :=
  ∀ (mg : Str → Option Value) (W : WX) (O : Addr → Prop) (H : Hp) (σ : L2.St) (c d : Cell) (v u : V) (Q : VK), (∀ a, O a → ∃ o, H a = some o) → PeekR K H O c v → PeekR K H O d u → Hand K mg W O H σ (op c d) Q → r v u H Q
theorem look1 {K : PySem.W.Frag} {mg : Str → Option Value} {r : V → Hp → VK → Prop} {op : Cell → R Cell} (ho : Op1 K r op) : ∀ σ H Q, teD K mg W (fun en => (fa en).bind op) σ H Q → tUn r (tpD K mg W fa) σ H Q := fun σ H Q ⟨H0, O0, own, env, E, h⟩ => by
  refine ⟨H0, O0, own, env, E, ?_⟩
  cases q : fa env with
  | no =>
    simp only [q, R.bind_no] at h
    exact h
  | ok c =>
    simp only [q, R.bind_ok] at h
    exact fun v H' s r => ho mg W _ H' σ c v Q (E.mono s).thereO r (Hand.mono s h)
  | ex k fs =>
    simp only [q, R.bind_ex] at h
    exact h
theorem look2 {K : PySem.W.Frag} {mg : Str → Option Value} {r : R2} {op : Cell → Cell → R Cell} (ho : Op2 K r op) : ∀ σ H Q, teD K mg W (fun en => (fa en).bind fun x => (fb en).bind fun y => op x y) σ H Q → tOp r (tpD K mg W fa) (tpD K mg W fb) σ H Q := fun σ H Q ⟨H0, O0, own, env, E, h⟩ => by
  refine ⟨H0, O0, own, env, E, ?_⟩
  cases q : fa env with
  | no =>
    simp only [q, R.bind_no] at h
    exact h
  | ex k fs =>
    simp only [q, R.bind_ex] at h
    exact h
  | ok c =>
    simp only [q, R.bind_ok] at h
    intro v H1 s1 r1
    refine ⟨H0, O0, own, env, E.mono s1, ?_⟩
    cases q2 : fb env with
    | no =>
      simp only [q2, R.bind_no] at h
      exact h
    | ex k fs =>
      simp only [q2, R.bind_ex] at h
      exact fun H' cls d s' w => h H' cls d (s1.trans s') w
    | ok d =>
      simp only [q2, R.bind_ok] at h
      exact fun u H2 s2 r2 => ho mg W _ H2 σ c d v u Q (E.mono (s1.trans s2)).thereO (PeekR_mono s2 (fun _ _ _ z => z) r1) r2 (Hand.mono (s1.trans s2) h)
theorem de_op {op : Operator} {r : R2} {g : Cell → Cell → R Cell} (hr : OpR X (binaryOp op) r) (ho : Op2 X.K r g) (ha : PE X a (tpD X.K X.mg W fa)) (hb : PE X b (tpD X.K X.mg W fb)) :
    PE X (.BinOp a op b pos) (teD X.K X.mg W fun en => (fa en).bind fun x => (fb en).bind fun y => g x y) := PE.imp (pe_op hr ha hb) (look2 ho)
theorem de_un {op : UnaryOp} {r : V → Hp → VK → Prop} {g : Cell → R Cell} (hr : UnR X (unaryOp op) r) (ho : Op1 X.K r g) (ha : PE X a (tpD X.K X.mg W fa)) :
    PE X (.UnaryOp op a pos) (teD X.K X.mg W fun en => (fa en).bind g) := PE.imp (pe_un hr ha) (look1 ho)
theorem de_cmp {op : CmpOp} {r : R2} {g : Cell → Cell → R Cell} (hr : OpR X (compareOp op) r) (ho : Op2 X.K r g) (ha : PE X a (tpD X.K X.mg W fa)) (hb : PE X b (tpD X.K X.mg W fb)) (hm : behindInMarks op b = false) :
    PE X (.Compare a [op] [b] pos) (teD X.K X.mg W fun en => (fa en).bind fun x => (fb en).bind fun y => g x y) := PE.imp (pe_cmpR hr ha hb hm) (look2 ho)
theorem OpR.or2 {f : Value → Value → Sem Value} {r r' : R2} (h : OpR X f r) (h' : OpR X f r') : OpR X f (fun x y H Q => r x y H Q ∨ r' x y H Q) := fun pins s σ H x y v u Q I rx ry q => by
  rcases q with q | q
  · exact h pins s σ H x y v u Q I rx ry q
  · exact h' pins s σ H x y v u Q I rx ry q
end
/-! ### the operations -/
section
variable {K : PySem.W.Frag}
theorem Peek_int {H : Hp} {O : Addr → Prop} {i : Int} {v : V} (h : PeekR K H O (.d (.int i)) v) : v = .int i := let ⟨_, _, q⟩ := h; Dp_int q
theorem Peek_d {H : Hp} {O : Addr → Prop} {x : D} {v : V} (h : PeekR K H O (.d x) v) : Dp K (hide H O) v x := let ⟨_, _, q⟩ := h; q
theorem Peek_own {H : Hp} {O : Addr → Prop} {xs : List D} {v : V} (h : PeekR K H O (.own xs) v) : ∃ a vs, v = .ref a ∧ H a = some (.lst vs) ∧ DpAll K (hide H O) vs xs := let ⟨_, a, vs, e1, _, e2, e3⟩ := h; ⟨a, vs, e1, e2, e3⟩
theorem Peek_view {H : Hp} {O : Addr → Prop} {c : Cell} {v : V} {x : D} (h : PeekR K H O c v) (e : c.view = some x) : Dp K H v x := let ⟨_, q⟩ := h; CellR_view q e
theorem Peek_items {H : Hp} {O : Addr → Prop} {c : Cell} {v : V} {xs : List D} (h : PeekR K H O c v) (e : c.items = some xs) : ∃ a vs, v = .ref a ∧ (SqL K H a vs ∨ SqT K H a vs) ∧ DpAll K (hide H O) vs xs := let ⟨_, q⟩ := h; CellR_items q e
theorem op2_intI {f : Int → Int → Int} {g : Int → Int → V} (e : ∀ i j, g i j = .int (f i j)) : Op2 K (rI0 g) (intI f) := fun mg W O H σ c d v u Q hO h1 h2 h => by
  unfold intI at h
  split at h
  · rename_i i j
    have e1 := Peek_int h1
    have e2 := Peek_int h2
    subst e1 e2
    exact ⟨i, j, rfl, rfl, by rw [e]; exact h.dat (.int _)⟩
  · exact h.elim
theorem op2_intB {f : Int → Int → Bool} : Op2 K (rI0 fun i j => .bl (f i j)) (intB f) := fun mg W O H σ c d v u Q hO h1 h2 h => by
  unfold intB at h
  split at h
  · rename_i i j
    have e1 := Peek_int h1
    have e2 := Peek_int h2
    subst e1 e2
    exact ⟨i, j, rfl, rfl, h.dat (.bl _)⟩
  · exact h.elim
theorem op2_div : Op2 K (rI CDiv fun i j => .int (i / j)) divD := fun mg W O H σ c d v u Q hO h1 h2 h => by
  unfold divD at h
  split at h
  · rename_i i j
    have e1 := Peek_int h1
    have e2 := Peek_int h2
    subst e1 e2
    split at h
    · rename_i hc
      exact ⟨i, j, rfl, rfl, hc, h.dat (.int _)⟩
    · exact h.elim
  · exact h.elim
theorem op2_mod : Op2 K (rI (fun _ j => 0 < j) fun i j => .int (i % j)) modD := fun mg W O H σ c d v u Q hO h1 h2 h => by
  unfold modD at h
  split at h
  · rename_i i j
    have e1 := Peek_int h1
    have e2 := Peek_int h2
    subst e1 e2
    split at h
    · rename_i hc
      exact ⟨i, j, rfl, rfl, hc, h.dat (.int _)⟩
    · exact h.elim
  · exact h.elim
theorem op2_pow : Op2 K (rI CPow fun i j => .int (i ^ j.toNat)) powD := fun mg W O H σ c d v u Q hO h1 h2 h => by
  unfold powD at h
  split at h
  · rename_i i j
    have e1 := Peek_int h1
    have e2 := Peek_int h2
    subst e1 e2
    split at h
    · rename_i hc
      exact ⟨i, j, rfl, rfl, hc, h.dat (.int _)⟩
    · exact h.elim
  · exact h.elim
theorem op1_neg : Op1 K (rU fun i => .int (-i)) negD := fun mg W O H σ c v Q hO h1 h => by
  unfold negD at h
  split at h
  · rename_i i
    have e1 := Peek_int h1
    subst e1
    exact ⟨i, rfl, h.dat (.int _)⟩
  · exact h.elim
/-- a new own list -/
theorem Hand.newL {mg : Str → Option Value} {W : WX} {O : Addr → Prop} {H : Hp} {σ : L2.St} {xs : List D} {vs : List V} {Q : VK} (h : Hand K mg W O H σ (.ok (.own xs)) Q) (q : DpAll K (hide H O) vs xs) : ∀ p, H p = none → Q (.ref p) (upd H p (.lst vs)) := fun p hp => by
  have s : Same H (upd H p (.lst vs)) := fun b o e => by rw [upd_ne (ne_of_none e hp)]; exact e
  refine h (.ref p) _ [p] s (fun a ha => ?_) (by simp) ⟨p, vs, rfl, rfl, upd_same, DpAll_mono (fun a o e => ?_) _ _ q⟩
  · rw [List.mem_singleton.mp ha]; exact hp
  · obtain ⟨n, e⟩ := hide_eq.mp e
    refine hide_eq.mpr ⟨fun z => ?_, s a o e⟩
    rcases z with z | z
    · exact n z
    · rw [List.mem_singleton.mp z, hp] at e
      cases e
/-- a new tuple -/
theorem Hand.newT {mg : Str → Option Value} {W : WX} {O : Addr → Prop} {H : Hp} {σ : L2.St} {xs : List D} {vs : List V} {Q : VK} (hO : ∀ a, O a → ∃ o, H a = some o) (h : Hand K mg W O H σ (.ok (.d (.tuple xs))) Q) (q : DpAll K (hide H O) vs xs) : ∀ p, H p = none → Q (.ref p) (upd H p (.tup vs)) := fun p hp => by
  have s : Same H (upd H p (.tup vs)) := fun b o e => by rw [upd_ne (ne_of_none e hp)]; exact e
  have s2 : Same (hide H O) (hide (upd H p (.tup vs)) O) := hide_same s fun _ _ _ z => z
  refine (Hand.mono s h).dat (.tup (SqT.of (hide_eq.mpr ⟨fun z => ?_, upd_same⟩)) (DpAll_mono s2 _ _ q))
  obtain ⟨o, e⟩ := hO p z
  rw [hp] at e
  cases e
end
end DL
/-! ## DL, part 4: more expressions, tests, arguments -/
namespace DL
open PySem PySem.Spec PyProof.Rows L2
def rCatS (K : PySem.W.Frag) : R2 := fun x y H Q => ∃ l b xs zs, x = .ref l ∧ y = .ref b ∧ SqL K H l xs ∧ SqL K H b zs ∧ xs.length + zs.length ≤ sizeLine ∧ ∀ p, H p = none → Q (.ref p) (upd H p (.lst (xs ++ zs)))
theorem op_catS {X : Cx} : OpR X (binaryOp .Add) (rCatS X.K) := by
  intro pins s σ H x y v u Q I rx ry h
  obtain ⟨l, b, xs, zs, rfl, rfl, hH, hB, hz, q⟩ := h
  cases rx
  cases ry
  obtain ⟨its, r, ⟨⟨cls, dd, data, sl⟩, n, ho, hc, hd, hs⟩, z1⟩ := I.list hH
  obtain ⟨its2, r2, ⟨⟨cls2, dd2, data2, sl2⟩, n2, ho2, hc2, hd2, hs2⟩, z2⟩ := I.list hB
  simp only at hc hd hs hc2 hd2 hs2
  subst hc hd hs hc2 hd2 hs2
  have ea : its.toArray ++ its2.toArray = (its ++ its2).toArray := by simp
  refine concat_meets ⟨_, ho, rfl⟩ ⟨_, ho2, rfl⟩ noFill_list_add seq_list_add PySem.F.slot_list_add PySem.F.entry_list_add (PySem.F.args_list_add_2 _ _) (list_addW l b its.toArray its2.toArray n n2 none none sl sl2 (by rw [List.size_toArray, List.size_toArray, ← r.length, ← r2.length]; exact hz)) ⟨ho, ho2, ?_⟩
  rw [ea]
  exact ⟨.ref _, _, I.lnew (r.append r2) (by rw [List.length_append]; exact hz), rfl, q _ I.fresh⟩
section
variable {K : PySem.W.Frag}
theorem cat_seq {H : Hp} {O : Addr → Prop} {c : Cell} {v : V} {xs : List D} (h1 : PeekR K H O c v) (e : catL c = some xs) : ∃ a vs, v = .ref a ∧ SqL K H a vs ∧ DpAll K (hide H O) vs xs := by
  unfold catL at e
  split at e
  · cases e
    obtain ⟨a, vs, e1, s1, q1⟩ := Peek_own h1
    exact ⟨a, vs, e1, SqL.of s1, q1⟩
  · cases e
    obtain ⟨a, vs, e1, s1, q1⟩ := Dp_seq (Peek_d h1)
    exact ⟨a, vs, e1, SqL_mono hide_sub s1, q1⟩
  · cases e
theorem op2_add : Op2 K (fun x y H Q => rI0 (fun i j => .int (i + j)) x y H Q ∨ (∃ i j, x = .str i ∧ y = .str j ∧ i.length + j.length ≤ sizeLine ∧ Q (.str (i ++ j)) H) ∨ rCatA K x y H Q ∨ rCatS K x y H Q) addD := fun mg W O H σ c d v u Q hO h1 h2 h => by
  have sz := sizeLine_eq
  unfold addD at h
  split at h
  · rename_i i j
    have e1 := Peek_int h1
    have e2 := Peek_int h2
    subst e1 e2
    exact .inl ⟨i, j, rfl, rfl, h.dat (.int _)⟩
  · rename_i s t
    have e1 := Dp_str (Peek_d h1)
    have e2 := Dp_str (Peek_d h2)
    subst e1 e2
    split at h
    · rename_i hl
      exact .inr (.inl ⟨s, t, rfl, rfl, by rw [sz]; exact hl, h.dat (.str _)⟩)
    · exact h.elim
  · rename_i xs ys
    obtain ⟨a, vs, e1, s1, q1⟩ := Dp_tup (Peek_d h1)
    obtain ⟨b, ws, e2, s2, q2⟩ := Dp_tup (Peek_d h2)
    split at h
    · rename_i hl
      have n1 := DpAll_len q1
      have n2 := DpAll_len q2
      refine .inr (.inr (.inl ⟨a, b, vs, ws, e1, e2, SqT_mono hide_sub s1, SqT_mono hide_sub s2, by rw [n1, n2, sz]; exact hl, fun z => ?_, fun _ z => ?_, fun _ _ => h.newT hO (DpAll_append q1 q2)⟩))
      · subst z
        cases q1
        subst e2
        exact h.dat (.tup s2 q2)
      · subst z
        cases q2
        rw [List.append_nil] at h
        subst e1
        exact h.dat (.tup s1 q1)
    · exact h.elim
  · split at h
    · rename_i xs ys q1 q2
      obtain ⟨a, vs, e1, s1, q1⟩ := cat_seq h1 q1
      obtain ⟨b, ws, e2, s2, q2⟩ := cat_seq h2 q2
      split at h
      · rename_i hl
        have n1 := DpAll_len q1
        have n2 := DpAll_len q2
        exact .inr (.inr (.inr ⟨a, b, vs, ws, e1, e2, s1, s2, by rw [n1, n2, sz]; exact hl, h.newL (DpAll_append q1 q2)⟩))
      · exact h.elim
    · exact h.elim
theorem opr_add {X : Cx} : OpR X (binaryOp .Add) (fun x y H Q => rI0 (fun i j => .int (i + j)) x y H Q ∨ (∃ i j, x = .str i ∧ y = .str j ∧ i.length + j.length ≤ sizeLine ∧ Q (.str (i ++ j)) H) ∨ rCatA X.K x y H Q ∨ rCatS X.K x y H Q) :=
  OpR.or2 op_add (OpR.or2 op_add_str (OpR.or2 op_catA op_catS))
theorem op2_mul : Op2 K (fun x y H Q => rI CMul (fun i j => .int (i * j)) x y H Q ∨ rRep x y H Q) mulD := fun mg W O H σ c d v u Q hO h1 h2 h => by
  have sz := sizeLine_eq
  unfold mulD at h
  split at h
  · rename_i i j
    have e1 := Peek_int h1
    have e2 := Peek_int h2
    subst e1 e2
    split at h
    · rename_i hc
      exact .inl ⟨i, j, rfl, rfl, hc, h.dat (.int _)⟩
    · exact h.elim
  · rename_i k _
    have e2 := Peek_int h2
    subst e2
    split at h
    · rename_i xs _
      obtain ⟨a, vs, e1, s1, q1⟩ := Peek_own h1
      split at h
      · rename_i hc
        have n1 := DpAll_len q1
        exact .inr ⟨a, k, vs, e1, rfl, s1, hc.1, hc.2.1, by rw [n1, sz]; exact hc.2.2, h.newL (DpAll_rep q1 _)⟩
      · exact h.elim
    · exact h.elim
  · exact h.elim
theorem opr_mul {X : Cx} : OpR X (binaryOp .Mult) (fun x y H Q => rI CMul (fun i j => .int (i * j)) x y H Q ∨ rRep x y H Q) := OpR.or2 op_mul op_rep
theorem op2_eq : Op2 K (rEqD K) eqD := fun mg W O H σ c d v u Q hO h1 h2 h => by
  unfold eqD at h
  split at h
  · rename_i x y e1 e2
    split at h
    · rename_i hc
      exact ⟨x, y, Peek_view h1 e1, Peek_view h2 e2, hc.1, hc.2, h.dat (.bl _)⟩
    · exact h.elim
  · exact h.elim
theorem op2_ne : Op2 K (rNeD K) neD := fun mg W O H σ c d v u Q hO h1 h2 h => by
  unfold neD at h
  split at h
  · rename_i x y e1 e2
    split at h
    · rename_i hc
      exact ⟨x, y, Peek_view h1 e1, Peek_view h2 e2, hc.1, hc.2, h.dat (.bl _)⟩
    · exact h.elim
  · exact h.elim
theorem Dp_nn {H : Hp} {v : V} {x : D} (h : Dp K H v x) : decide (v = .non) = (match x with | .none => true | _ => false) := by
  cases h <;> simp
def notN (x : D) : Bool := match x with
  | .none => false
  | _ => true
theorem isN_eq {c : Cell} : isNoneD c = (match c with | .un => .no | .d x => .ok (.d (.bool (!notN x))) | _ => .ok (.d (.bool false))) := by
  unfold isNoneD notN
  cases c with
  | d x => cases x <;> rfl
  | _ => rfl
theorem notN_eq {c : Cell} : notNoneD c = (match c with | .un => .no | .d x => .ok (.d (.bool (notN x))) | _ => .ok (.d (.bool true))) := by
  unfold notNoneD notN
  cases c with
  | d x => cases x <;> rfl
  | _ => rfl
theorem Dp_notN {H : Hp} {v : V} {x : D} (h : Dp K H v x) : decide (v = .non) = !notN x := by
  cases h <;> simp [notN]
theorem op1_isN : Op1 K (fun x H Q => Q (.bl (decide (x = .non))) H) isNoneD := fun mg W O H σ c v Q hO h1 h => by
  rw [isN_eq] at h
  cases c with
  | un => exact h.elim
  | d x =>
    rw [Dp_notN (Peek_d h1)]
    exact h.dat (.bl _)
  | own xs =>
    obtain ⟨a, vs, rfl, _, _⟩ := Peek_own h1
    exact h.dat (.bl _)
  | own2 xss =>
    obtain ⟨_, a, as, rfl, _⟩ := h1
    exact h.dat (.bl _)
  | par _ _ =>
    obtain ⟨_, vs, rfl, _⟩ := h1
    exact h.dat (.bl _)
  | exc _ _ _ _ =>
    obtain ⟨_, y, rfl, _⟩ := h1
    exact h.dat (.bl _)
theorem op1_notN : Op1 K (fun x H Q => Q (.bl (!decide (x = .non))) H) notNoneD := fun mg W O H σ c v Q hO h1 h => by
  rw [notN_eq] at h
  cases c with
  | un => exact h.elim
  | d x =>
    rw [Dp_notN (Peek_d h1), Bool.not_not]
    exact h.dat (.bl _)
  | own xs =>
    obtain ⟨a, vs, rfl, _, _⟩ := Peek_own h1
    exact h.dat (.bl _)
  | own2 xss =>
    obtain ⟨_, a, as, rfl, _⟩ := h1
    exact h.dat (.bl _)
  | par _ _ =>
    obtain ⟨_, vs, rfl, _⟩ := h1
    exact h.dat (.bl _)
  | exc _ _ _ _ =>
    obtain ⟨_, y, rfl, _⟩ := h1
    exact h.dat (.bl _)
theorem op1_len : Op1 K (fun x H Q => (∃ p ys, [x] = [V.ref p] ∧ (SqL K H p ys ∨ SqT K H p ys) ∧ Q (.int ys.length) H) ∨ (∃ z, [x] = [V.str z] ∧ z.length ≤ sizeLine ∧ Q (.int z.length) H)) lenD := fun mg W O H σ c v Q hO h1 h => by
  have sz := sizeLine_eq
  unfold lenD at h
  split at h
  · rename_i xs
    obtain ⟨a, vs, rfl, s, q⟩ := Dp_seq (Peek_d h1)
    refine .inl ⟨a, vs, rfl, .inl (SqL_mono hide_sub s), ?_⟩
    rw [DpAll_len q]
    exact h.dat (.int _)
  · rename_i xs
    obtain ⟨a, vs, rfl, s, q⟩ := Dp_tup (Peek_d h1)
    refine .inl ⟨a, vs, rfl, .inr (SqT_mono hide_sub s), ?_⟩
    rw [DpAll_len q]
    exact h.dat (.int _)
  · rename_i s
    have e := Dp_str (Peek_d h1)
    subst e
    split at h
    · rename_i hl
      exact .inr ⟨s, rfl, by rw [sz]; exact hl, h.dat (.int _)⟩
    · exact h.elim
  · rename_i xs
    obtain ⟨a, vs, rfl, s, q⟩ := Peek_own h1
    refine .inl ⟨a, vs, rfl, .inl (SqL.of s), ?_⟩
    rw [DpAll_len q]
    exact h.dat (.int _)
  · rename_i xss
    obtain ⟨_, a, as, rfl, _, s, q⟩ := h1
    refine .inl ⟨a, _, rfl, .inl (SqL.of s), ?_⟩
    rw [List.length_map, RowsR_len q]
    exact h.dat (.int _)
  · exact h.elim
theorem op1_list : Op1 K (fun x H Q => ∃ p ys, [x] = [V.ref p] ∧ (SqL K H p ys ∨ SqT K H p ys) ∧ ∀ l, H l = none → Q (.ref l) (upd H l (.lst ys))) listD := fun mg W O H σ c v Q hO h1 h => by
  unfold listD at h
  split at h
  · rename_i xs e
    obtain ⟨a, vs, rfl, s, q⟩ := Peek_items h1 e
    exact ⟨a, vs, rfl, s, h.newL q⟩
  · exact h.elim
theorem op1_tuple : Op1 K (fun x H Q => ∃ p ys, [x] = [V.ref p] ∧ ((SqL K H p ys ∧ ∀ l, H l = none → Q (.ref l) (upd H l (.tup ys))) ∨ (SqT K H p ys ∧ Q (.ref p) H))) tupleD := fun mg W O H σ c v Q hO h1 h => by
  unfold tupleD at h
  cases c with
  | un => exact h.elim
  | own2 _ => exact h.elim
  | par _ _ => exact h.elim
  | exc _ _ _ _ => exact h.elim
  | own xs =>
    obtain ⟨a, vs, rfl, s, q⟩ := Peek_own h1
    exact ⟨a, vs, rfl, .inl ⟨SqL.of s, h.newT hO q⟩⟩
  | d x =>
    cases x with
    | list xs =>
      obtain ⟨a, vs, rfl, s, q⟩ := Dp_seq (Peek_d h1)
      exact ⟨a, vs, rfl, .inl ⟨SqL_mono hide_sub s, h.newT hO q⟩⟩
    | tuple xs =>
      obtain ⟨a, vs, rfl, s, q⟩ := Dp_tup (Peek_d h1)
      exact ⟨a, vs, rfl, .inr ⟨SqT_mono hide_sub s, h.dat (.tup s q)⟩⟩
    | _ => exact h.elim
theorem op2_max : Op2 K (fun x y H Q => ∃ i j, [x, y] = [V.int i, V.int j] ∧ Q (.int (if j > i then j else i)) H) maxD := fun mg W O H σ c d v u Q hO h1 h2 h => by
  unfold maxD intI at h
  split at h
  · rename_i i j
    have e1 := Peek_int h1
    have e2 := Peek_int h2
    subst e1 e2
    exact ⟨i, j, rfl, h.dat (.int _)⟩
  · exact h.elim
theorem op2_min : Op2 K (fun x y H Q => ∃ i j, [x, y] = [V.int i, V.int j] ∧ Q (.int (if j < i then j else i)) H) minD := fun mg W O H σ c d v u Q hO h1 h2 h => by
  unfold minD intI at h
  split at h
  · rename_i i j
    have e1 := Peek_int h1
    have e2 := Peek_int h2
    subst e1 e2
    exact ⟨i, j, rfl, h.dat (.int _)⟩
  · exact h.elim
/-- isinstance(x, T), T one of the five -/
theorem TyX_sq {H : Hp} {a : Addr} {vs : List V} (h : SqL K H a vs) : TyX K H (.ref a) (.type "list") := by
  rcases h with (h | ⟨o, h⟩) | ⟨o, its, n, h1, h2, _⟩
  · exact .base (.lst h)
  · exact .base (.frz h)
  · exact .kList h1 h2
theorem TyX_tp {H : Hp} {a : Addr} {vs : List V} (h : SqT K H a vs) : TyX K H (.ref a) (.type "tuple") := by
  rcases h with (h | ⟨o, h⟩) | ⟨o, its, n, h1, h2, _⟩
  · exact .base (.tup h)
  · exact .fTuple h
  · exact .kTuple h1 h2
def Five (n : String) : Prop := n = "bool" ∨ n = "int" ∨ n = "str" ∨ n = "list" ∨ n = "tuple"
theorem kit5 {n : String} (hn : Five n) : PySem.W.kitOne K (.type "NoneType") (.type n) = some false ∧ PySem.W.kitOne K (.type "bool") (.type n) = some (n == "bool" || n == "int") ∧ PySem.W.kitOne K (.type "int") (.type n) = some (n == "int") ∧
    PySem.W.kitOne K (.type "str") (.type n) = some (n == "str") ∧ PySem.W.kitOne K (.type "list") (.type n) = some (n == "list") ∧ PySem.W.kitOne K (.type "tuple") (.type n) = some (n == "tuple") := by
  rcases hn with rfl | rfl | rfl | rfl | rfl <;> exact ⟨kit_ty (by decide +kernel), kit_ty (by decide +kernel), kit_ty (by decide +kernel), kit_ty (by decide +kernel), kit_ty (by decide +kernel), kit_ty (by decide +kernel)⟩
theorem op1_isi {n : String} (hn : Five n) : Op1 K (fun x H Q => rIsi K [x, .ty n] H Q) (isiD n) := fun mg W O H σ c v Q hO h1 h => by
  obtain ⟨k0, k1, k2, k3, k4, k5⟩ := kit5 (K := K) hn
  unfold isiD at h
  split at h
  · exact h.elim
  · have e := Dp_none (Peek_d h1)
    subst e
    exact ⟨_, _, _, _, _, rfl, .ty n, .base .non, k0, h.dat (.bl _)⟩
  · have e := Dp_bool (Peek_d h1)
    subst e
    exact ⟨_, _, _, _, _, rfl, .ty n, .base (.bl _), k1, h.dat (.bl _)⟩
  · have e := Dp_int (Peek_d h1)
    subst e
    exact ⟨_, _, _, _, _, rfl, .ty n, .base (.int _), k2, h.dat (.bl _)⟩
  · have e := Dp_str (Peek_d h1)
    subst e
    exact ⟨_, _, _, _, _, rfl, .ty n, .base (.str _), k3, h.dat (.bl _)⟩
  · obtain ⟨a, vs, rfl, s, q⟩ := Dp_seq (Peek_d h1)
    exact ⟨_, _, _, _, _, rfl, .ty n, TyX_sq (SqL_mono hide_sub s), k4, h.dat (.bl _)⟩
  · obtain ⟨a, vs, rfl, s, q⟩ := Dp_tup (Peek_d h1)
    exact ⟨_, _, _, _, _, rfl, .ty n, TyX_tp (SqT_mono hide_sub s), k5, h.dat (.bl _)⟩
  · exact h.elim
  · obtain ⟨a, vs, rfl, s, q⟩ := Peek_own h1
    exact ⟨_, _, _, _, _, rfl, .ty n, TyX_sq (SqL.of s), k4, h.dat (.bl _)⟩
  · obtain ⟨_, a, as, rfl, _, s, q⟩ := h1
    exact ⟨_, _, _, _, _, rfl, .ty n, TyX_sq (SqL.of s), k4, h.dat (.bl _)⟩
  · exact h.elim
  · exact h.elim
/-! ### subscripts -/
theorem atI_mono {xs : List V} {ds : List D} {H : Hp} {i : Int} {x : D} (q : DpAll K H xs ds) (h : atI ds i = some x) : ∃ v, atI xs i = some v ∧ Dp K H v x := by
  obtain ⟨j, h1, h2⟩ := Option.bind_eq_some_iff.mp h
  obtain ⟨v, e1, e2⟩ := DpAll_get q h2
  exact ⟨v, Option.bind_eq_some_iff.mpr ⟨j, by rw [DpAll_len q]; exact h1, e1⟩, e2⟩
theorem atI_rows {H : Hp} {O : Addr → Prop} {as : List Addr} {xss : List (List D)} {i : Int} {xs : List D} (q : RowsR K H O as xss) (h : atI xss i = some xs) : ∃ a vs, atI (as.map V.ref) i = some (.ref a) ∧ H a = some (.lst vs) ∧ DpAll K (hide H O) vs xs := by
  obtain ⟨j, h1, h2⟩ := Option.bind_eq_some_iff.mp h
  obtain ⟨a, vs, e1, e2, e3⟩ := RowsR_get q h2
  refine ⟨a, vs, Option.bind_eq_some_iff.mpr ⟨j, by rw [List.length_map, RowsR_len q]; exact h1, ?_⟩, e2, e3⟩
  rw [List.getElem?_map, e1]
  rfl
def Op2P (K : PySem.W.Frag) (r : R2) (op : Cell → Cell → R Cell) : Prop :=
  ∀ (mg : Str → Option Value) (W : WX) (O : Addr → Prop) (H : Hp) (σ : L2.St) (c d : Cell) (v u : V) (Q : VK), (∀ a, O a → ∃ o, H a = some o) → PeekR K H O c v → PeekR K H O d u → HandP K mg W O H σ (op c d) Q → r v u H Q
theorem op2p_ix : Op2P K (rIx K) idxD := fun mg W O H σ c d v u Q hO h1 h2 h => by
  unfold idxD at h
  split at h
  · rename_i i
    have e2 := Peek_int h2
    subst e2
    split at h
    · obtain ⟨a, vs, rfl, s, q⟩ := Dp_seq (Peek_d h1)
      split at h
      · rename_i x e
        obtain ⟨w, e1, e2⟩ := atI_mono q e
        exact .inl ⟨a, vs, i, w, rfl, rfl, SqL_mono hide_sub s, e1, h w H (Same.refl H) ⟨[], rfl, e2⟩⟩
      · exact h.elim
    · obtain ⟨a, vs, rfl, s, q⟩ := Dp_tup (Peek_d h1)
      split at h
      · rename_i x e
        obtain ⟨w, e1, e2⟩ := atI_mono q e
        exact .inr (.inl ⟨a, vs, i, w, rfl, rfl, SqT_mono hide_sub s, e1, h w H (Same.refl H) ⟨[], rfl, e2⟩⟩)
      · exact h.elim
    · obtain ⟨a, vs, rfl, s, q⟩ := Peek_own h1
      split at h
      · rename_i x e
        obtain ⟨w, e1, e2⟩ := atI_mono q e
        exact .inl ⟨a, vs, i, w, rfl, rfl, SqL.of s, e1, h w H (Same.refl H) ⟨[], rfl, e2⟩⟩
      · exact h.elim
    · obtain ⟨_, a, as, rfl, _, s, q⟩ := h1
      split at h
      · rename_i x e
        obtain ⟨b, ws, e1, e2, e3⟩ := atI_rows q e
        exact .inl ⟨a, _, i, .ref b, rfl, rfl, SqL.of s, e1, h _ H (Same.refl H) ⟨[b], b, ws, rfl, rfl, e2, e3⟩⟩
      · exact h.elim
    · exact h.elim
  · exact h.elim
end
section
variable {X : Cx} {W : WX} {e a b c : Expr} {fa fb fc : Env → R Cell} {pos : Pos}
theorem look2P {K : PySem.W.Frag} {mg : Str → Option Value} {r : R2} {op : Cell → Cell → R Cell} (ho : Op2P K r op) : ∀ σ H Q, tpD K mg W (fun en => (fa en).bind fun x => (fb en).bind fun y => op x y) σ H Q → tOp r (tpD K mg W fa) (tpD K mg W fb) σ H Q := fun σ H Q ⟨H0, O0, own, env, E, h⟩ => by
  refine ⟨H0, O0, own, env, E, ?_⟩
  cases q : fa env with
  | no =>
    simp only [q, R.bind_no] at h
    exact h
  | ex k fs =>
    simp only [q, R.bind_ex] at h
    exact h
  | ok c =>
    simp only [q, R.bind_ok] at h
    intro v H1 s1 r1
    refine ⟨H0, O0, own, env, E.mono s1, ?_⟩
    cases q2 : fb env with
    | no =>
      simp only [q2, R.bind_no] at h
      exact h
    | ex k fs =>
      simp only [q2, R.bind_ex] at h
      exact fun H' cls d s' w => h H' cls d (s1.trans s') w
    | ok d =>
      simp only [q2, R.bind_ok] at h
      exact fun u H2 s2 r2 => ho mg W _ H2 σ c d v u Q (E.mono (s1.trans s2)).thereO (PeekR_mono s2 (fun _ _ _ z => z) r1) r2 (HandP.mono (s1.trans s2) h)
/-- a[b], looked at -/
theorem dp_ix (ha : PE X a (tpD X.K X.mg W fa)) (hb : PE X b (tpD X.K X.mg W fb)) (hs : PlainIx b := by exact fun _ _ => rfl) : PE X (.Subscript a b pos) (tpD X.K X.mg W fun en => (fa en).bind fun x => (fb en).bind fun y => idxD x y) :=
  PE.imp (pe_ix ix_seq ha hb hs) (look2P op2p_ix)
/-- comparisons as tests -/
theorem look2T {K : PySem.W.Frag} {mg : Str → Option Value} {r : R2} {op : Cell → Cell → R Cell} (ho : Op2 K r op) : ∀ σ H Q, ttD K mg W (fun en => ((fa en).bind fun x => (fb en).bind fun y => op x y).bind asB) σ H Q → tTest (tOp r (tpD K mg W fa) (tpD K mg W fb)) σ H Q := fun σ H Q h => by
  refine look2 (mg := mg) (W := W) ho σ H _ ?_
  obtain ⟨H0, O0, own, env, E, h⟩ := h
  refine ⟨H0, O0, own, env, E, ?_⟩
  dsimp only
  cases q : ((fa env).bind fun x => (fb env).bind fun y => op x y) with
  | no =>
    simp only [q, R.bind_no] at h
    exact h
  | ex k fs =>
    simp only [q, R.bind_ex] at h
    exact h
  | ok c =>
    simp only [q, R.bind_ok] at h
    intro v H' os s _ _ r
    unfold asB at h
    split at h
    · rename_i b
      have e := Dp_bool r.2
      subst e
      exact ⟨b, rfl, h H' s⟩
    · exact h.elim
theorem dt_cmp {op : CmpOp} {r : R2} {g : Cell → Cell → R Cell} (hr : OpR X (compareOp op) r) (ho : Op2 X.K r g) (ha : PE X a (tpD X.K X.mg W fa)) (hb : PE X b (tpD X.K X.mg W fb)) (hm : behindInMarks op b = false) :
    PT X (.Compare a [op] [b] pos) (ttD X.K X.mg W fun en => ((fa en).bind fun x => (fb en).bind fun y => g x y).bind asB) := PT.imp (pt_cmpR hr ha hb hm) (look2T ho)
theorem lookT {K : PySem.W.Frag} {mg : Str → Option Value} : ∀ σ H Q, ttD K mg W (fun en => (fa en).bind asB) σ H Q → tB (teD K mg W fa) σ H Q := fun σ H Q h => by
  obtain ⟨H0, O0, own, env, E, h⟩ := h
  refine ⟨H0, O0, own, env, E, ?_⟩
  cases q : fa env with
  | no =>
    simp only [q, R.bind_no] at h
    exact h
  | ex k fs =>
    simp only [q, R.bind_ex] at h
    exact h
  | ok c =>
    simp only [q, R.bind_ok] at h
    intro v H' os s _ _ r
    unfold asB at h
    split at h
    · rename_i b
      have e := Dp_bool r.2
      subst e
      exact ⟨b, rfl, h H' s⟩
    · exact h.elim
/-- a value that is True or False, as a test -/
theorem dt_val (ha : PE X a (teD X.K X.mg W fa)) (he : ∀ whole, isTrue a X.env whole = (do let v ← whole; standAt a.pos; holding [v] (truthy v)) := by intro _; rfl) : PT X a (ttD X.K X.mg W fun en => (fa en).bind asB) :=
  PT.imp (pt_val ha he) lookT
variable {ta tb : Env → R Bool} {rest : List Expr}
def andR (x : R Bool) (y : R Bool) : R Bool := x.bind fun b => if b = true then y else .ok false
def orR (x : R Bool) (y : R Bool) : R Bool := x.bind fun b => if b = true then .ok true else y
def notR (x : R Bool) : R Bool := x.bind fun b => .ok (!b)
theorem dt_not (ha : PT X a (ttD X.K X.mg W ta)) : PT X (.UnaryOp .Not a pos) (ttD X.K X.mg W fun en => notR (ta en)) := PT.imp (pt_not ha) fun σ H Q ⟨H0, O0, own, env, E, h⟩ => by
  refine ⟨H0, O0, own, env, E, ?_⟩
  unfold notR at h
  cases q : ta env with
  | no => simp only [q, R.bind_no] at h; exact h
  | ex k fs => simp only [q, R.bind_ex] at h; exact h
  | ok b => simp only [q, R.bind_ok] at h; exact h
theorem dw_and1 (ha : PT X a (ttD X.K X.mg W ta)) : PW X (.BoolOp .And [a] pos) (ttD X.K X.mg W ta) := pw_and1 ha
theorem dw_or1 (ha : PT X a (ttD X.K X.mg W ta)) : PW X (.BoolOp .Or [a] pos) (ttD X.K X.mg W ta) := pw_or1 ha
theorem dw_and (ha : PT X a (ttD X.K X.mg W ta)) (hb : PW X (.BoolOp .And (b :: rest) pos) (ttD X.K X.mg W tb)) : PW X (.BoolOp .And (a :: b :: rest) pos) (ttD X.K X.mg W fun en => andR (ta en) (tb en)) := PW.imp (pw_and ha hb) fun σ H Q ⟨H0, O0, own, env, E, h⟩ => by
  refine ⟨H0, O0, own, env, E, ?_⟩
  unfold andR at h
  cases q : ta env with
  | no => simp only [q, R.bind_no] at h; exact h
  | ex k fs => simp only [q, R.bind_ex] at h; exact h
  | ok b =>
    simp only [q, R.bind_ok] at h
    intro H' s
    cases b with
    | true =>
      rw [if_pos rfl] at h ⊢
      exact ⟨H0, O0, own, env, E.mono s, HandT.mono s h⟩
    | false =>
      rw [if_neg Bool.false_ne_true] at h ⊢
      exact h H' s
theorem dw_or (ha : PT X a (ttD X.K X.mg W ta)) (hb : PW X (.BoolOp .Or (b :: rest) pos) (ttD X.K X.mg W tb)) : PW X (.BoolOp .Or (a :: b :: rest) pos) (ttD X.K X.mg W fun en => orR (ta en) (tb en)) := PW.imp (pw_or ha hb) fun σ H Q ⟨H0, O0, own, env, E, h⟩ => by
  refine ⟨H0, O0, own, env, E, ?_⟩
  unfold orR at h
  cases q : ta env with
  | no => simp only [q, R.bind_no] at h; exact h
  | ex k fs => simp only [q, R.bind_ex] at h; exact h
  | ok b =>
    simp only [q, R.bind_ok] at h
    intro H' s
    cases b with
    | true =>
      rw [if_pos rfl] at h ⊢
      exact h H' s
    | false =>
      rw [if_neg Bool.false_ne_true] at h ⊢
      exact ⟨H0, O0, own, env, E.mono s, HandT.mono s h⟩
/-! ### and, or, not as values (truth values) -/
def andV (x y : R Cell) : R Cell := (x.bind asB).bind fun b => if b = true then y else .ok (.d (.bool false))
def orV (x y : R Cell) : R Cell := (x.bind asB).bind fun b => if b = true then .ok (.d (.bool true)) else y
def notV (x : R Cell) : R Cell := (x.bind asB).bind fun b => .ok (.d (.bool (!b)))
theorem de_one {op} (ha : PE X a (teD X.K X.mg W fa)) : PE X (.BoolOp op [a] pos) (teD X.K X.mg W fa) := pe_one ha
theorem asB_ok {K : PySem.W.Frag} {H : Hp} {O : Addr → Prop} {os : List Addr} {c : Cell} {v : V} {b : Bool} (h : asB c = .ok b) (r : CellR K H O os c v) : v = .bl b := by
  unfold asB at h
  split at h
  · cases h
    exact Dp_bool r.2
  · cases h
theorem asB_ex {c : Cell} {k : Str} {fs : List (Str × D)} (h : asB c = .ex k fs) : False := by
  unfold asB at h
  split at h <;> cases h
theorem de_and (ha : PE X a (teD X.K X.mg W fa)) (hb : PE X (.BoolOp .And (b :: rest) pos) (teD X.K X.mg W fb)) : PE X (.BoolOp .And (a :: b :: rest) pos) (teD X.K X.mg W fun en => andV (fa en) (fb en)) := PE.imp (pe_and ha hb) fun σ H Q ⟨H0, O0, own, env, E, h⟩ => by
  refine ⟨H0, O0, own, env, E, ?_⟩
  unfold andV at h
  cases q : fa env with
  | no => simp only [q, R.bind_no] at h; exact h
  | ex k fs => simp only [q, R.bind_ex] at h; exact h
  | ok c =>
    simp only [q, R.bind_ok] at h
    intro v H' os s _ _ r
    cases q2 : asB c with
    | no => simp only [q2, R.bind_no] at h; exact h.elim
    | ex k fs => exact (asB_ex q2).elim
    | ok b =>
      simp only [q2, R.bind_ok] at h
      refine ⟨b, asB_ok q2 r, ?_⟩
      cases b with
      | true =>
        rw [if_pos rfl] at h ⊢
        exact ⟨H0, O0, own, env, E.mono s, Hand.mono s h⟩
      | false =>
        rw [if_neg Bool.false_ne_true] at h ⊢
        exact (Hand.mono s h).dat (.bl _)
theorem de_or (ha : PE X a (teD X.K X.mg W fa)) (hb : PE X (.BoolOp .Or (b :: rest) pos) (teD X.K X.mg W fb)) : PE X (.BoolOp .Or (a :: b :: rest) pos) (teD X.K X.mg W fun en => orV (fa en) (fb en)) := PE.imp (pe_or ha hb) fun σ H Q ⟨H0, O0, own, env, E, h⟩ => by
  refine ⟨H0, O0, own, env, E, ?_⟩
  unfold orV at h
  cases q : fa env with
  | no => simp only [q, R.bind_no] at h; exact h
  | ex k fs => simp only [q, R.bind_ex] at h; exact h
  | ok c =>
    simp only [q, R.bind_ok] at h
    intro v H' os s _ _ r
    cases q2 : asB c with
    | no => simp only [q2, R.bind_no] at h; exact h.elim
    | ex k fs => exact (asB_ex q2).elim
    | ok b =>
      simp only [q2, R.bind_ok] at h
      refine ⟨b, asB_ok q2 r, ?_⟩
      cases b with
      | true =>
        rw [if_pos rfl] at h ⊢
        exact (Hand.mono s h).dat (.bl _)
      | false =>
        rw [if_neg Bool.false_ne_true] at h ⊢
        exact ⟨H0, O0, own, env, E.mono s, Hand.mono s h⟩
theorem de_not (ha : PE X a (teD X.K X.mg W fa)) : PE X (.UnaryOp .Not a pos) (teD X.K X.mg W fun en => notV (fa en)) := PE.imp (pe_not ha) fun σ H Q ⟨H0, O0, own, env, E, h⟩ => by
  refine ⟨H0, O0, own, env, E, ?_⟩
  unfold notV at h
  cases q : fa env with
  | no => simp only [q, R.bind_no] at h; exact h
  | ex k fs => simp only [q, R.bind_ex] at h; exact h
  | ok c =>
    simp only [q, R.bind_ok] at h
    intro v H' os s _ _ r
    cases q2 : asB c with
    | no => simp only [q2, R.bind_no] at h; exact h.elim
    | ex k fs => exact (asB_ex q2).elim
    | ok b =>
      simp only [q2, R.bind_ok] at h
      exact ⟨b, asB_ok q2 r, (Hand.mono s h).dat (.bl _)⟩
def ifR {α : Type} (t : R Bool) (x y : R α) : R α := t.bind fun b => if b = true then x else y
theorem de_if (hc : PT X c (ttD X.K X.mg W ta)) (ha : PE X a (teD X.K X.mg W fa)) (hb : PE X b (teD X.K X.mg W fb)) : PE X (.IfExp c a b pos) (teD X.K X.mg W fun en => ifR (ta en) (fa en) (fb en)) := PE.imp (pe_ifExp hc ha hb) fun σ H Q ⟨H0, O0, own, env, E, h⟩ => by
  refine ⟨H0, O0, own, env, E, ?_⟩
  unfold ifR at h
  cases q : ta env with
  | no => simp only [q, R.bind_no] at h; exact h
  | ex k fs => simp only [q, R.bind_ex] at h; exact h
  | ok b =>
    simp only [q, R.bind_ok] at h
    intro H' s
    cases b with
    | true =>
      rw [if_pos rfl] at h ⊢
      exact ⟨H0, O0, own, env, E.mono s, Hand.mono s h⟩
    | false =>
      rw [if_neg Bool.false_ne_true] at h ⊢
      exact ⟨H0, O0, own, env, E.mono s, Hand.mono s h⟩
/-- a is None, a is not None -/
theorem de_isN {j p'} (ha : PE X a (tpD X.K X.mg W fa)) : PE X (.Compare a [.Is] [.Constant .none j p'] pos) (teD X.K X.mg W fun en => (fa en).bind isNoneD) := PE.imp (pe_cmp (pc_isN ha)) (look1 op1_isN)
theorem de_notN {j p'} (ha : PE X a (tpD X.K X.mg W fa)) : PE X (.Compare a [.IsNot] [.Constant .none j p'] pos) (teD X.K X.mg W fun en => (fa en).bind notNoneD) := PE.imp (pe_cmp (pc_notN ha)) (look1 op1_notN)
theorem dt_isN {j p'} (ha : PE X a (tpD X.K X.mg W fa)) : PT X (.Compare a [.Is] [.Constant .none j p'] pos) (ttD X.K X.mg W fun en => ((fa en).bind isNoneD).bind asB) := PT.imp (pt_cmp (pc_isN ha)) fun σ H Q h => by
  have h' := lookT (fa := fun en => (fa en).bind isNoneD) σ H Q h
  exact look1 op1_isN σ H _ h'
theorem dt_notN {j p'} (ha : PE X a (tpD X.K X.mg W fa)) : PT X (.Compare a [.IsNot] [.Constant .none j p'] pos) (ttD X.K X.mg W fun en => ((fa en).bind notNoneD).bind asB) := PT.imp (pt_cmp (pc_notN ha)) fun σ H Q h => by
  have h' := lookT (fa := fun en => (fa en).bind notNoneD) σ H Q h
  exact look1 op1_notN σ H _ h'
/-! ### calls of built-ins -/
variable {x : Str} {p : Pos} {id T : String} {r : List V → Hp → VK → Prop}
theorem de_b1 {g : Cell → R Cell} (hc : CallR X (.builtin id) r) (hm : X.mg x = none) (hv : bootBuiltins x = some (.builtin id)) (ho : Op1 X.K (fun v H Q => r [v] H Q) g) (ha : PE X a (tpD X.K X.mg W fa)) (hg : Gl X x := by rfl) (hn : x ≠ "__name__" := by decide) (hdb : (x == ("__debug__" : Str)) = false := by decide)
    (he : starEach (a :: []) X.env = (false, eval a X.env) :: starEach [] X.env := by rfl) (hpl : (backTo pos (starEach [] X.env)).any (·.1) = false := by rfl) :
    PE X (.Call (.Name x p) [a] [] pos) (teD X.K X.mg W fun en => (fa en).bind g) := PE.imp (pe_callB hc hg hm hv (pa_cons ha pa_nil he) hn hdb he hpl) (look1 ho)
theorem de_t1 {g : Cell → R Cell} (hc : CallR X (.type T) r) (hm : X.mg x = none) (hv : bootBuiltins x = some (.type T)) (ho : Op1 X.K (fun v H Q => r [v] H Q) g) (ha : PE X a (tpD X.K X.mg W fa)) (hg : Gl X x := by rfl) (hn : x ≠ "__name__" := by decide) (hdb : (x == ("__debug__" : Str)) = false := by decide)
    (he : starEach (a :: []) X.env = (false, eval a X.env) :: starEach [] X.env := by rfl) (hpl : (backTo pos (starEach [] X.env)).any (·.1) = false := by rfl) :
    PE X (.Call (.Name x p) [a] [] pos) (teD X.K X.mg W fun en => (fa en).bind g) := PE.imp (pe_callTy hc hg hm hv (pa_cons ha pa_nil he) hn hdb he hpl) (look1 ho)
theorem de_b2 {g : Cell → Cell → R Cell} (hc : CallR X (.builtin id) r) (hm : X.mg x = none) (hv : bootBuiltins x = some (.builtin id)) (ho : Op2 X.K (fun v u H Q => r [v, u] H Q) g) (ha : PE X a (tpD X.K X.mg W fa)) (hb : PE X b (tpD X.K X.mg W fb)) (hg : Gl X x := by rfl) (hn : x ≠ "__name__" := by decide) (hdb : (x == ("__debug__" : Str)) = false := by decide)
    (he : starEach (a :: [b]) X.env = (false, eval a X.env) :: starEach [b] X.env := by rfl) (he2 : starEach (b :: []) X.env = (false, eval b X.env) :: starEach [] X.env := by rfl) (hpl : (backTo pos (starEach [b] X.env)).any (·.1) = false := by rfl) :
    PE X (.Call (.Name x p) [a, b] [] pos) (teD X.K X.mg W fun en => (fa en).bind fun y => (fb en).bind fun z => g y z) := PE.imp (pe_callB hc hg hm hv (pa_cons ha (pa_cons hb pa_nil he2) he) hn hdb he hpl) (look2 ho)
theorem de_len (hm : X.mg "len" = none) (ha : PE X a (tpD X.K X.mg W fa)) (hg : Gl X "len" := by rfl)
    (he : starEach (a :: []) X.env = (false, eval a X.env) :: starEach [] X.env := by rfl) (hpl : (backTo pos (starEach [] X.env)).any (·.1) = false := by rfl) :
    PE X (.Call (.Name "len" p) [a] [] pos) (teD X.K X.mg W fun en => (fa en).bind lenD) := de_b1 (CallR.or call_len_seq call_len_str) hm PySem.boot_len op1_len ha hg (by decide) (by decide) he hpl
theorem de_list (hm : X.mg "list" = none) (ha : PE X a (tpD X.K X.mg W fa)) (hg : Gl X "list" := by rfl)
    (he : starEach (a :: []) X.env = (false, eval a X.env) :: starEach [] X.env := by rfl) (hpl : (backTo pos (starEach [] X.env)).any (·.1) = false := by rfl) :
    PE X (.Call (.Name "list" p) [a] [] pos) (teD X.K X.mg W fun en => (fa en).bind listD) := de_t1 call_list_of hm (by decide +kernel) op1_list ha hg (by decide) (by decide) he hpl
theorem de_tuple (hm : X.mg "tuple" = none) (ha : PE X a (tpD X.K X.mg W fa)) (hg : Gl X "tuple" := by rfl)
    (he : starEach (a :: []) X.env = (false, eval a X.env) :: starEach [] X.env := by rfl) (hpl : (backTo pos (starEach [] X.env)).any (·.1) = false := by rfl) :
    PE X (.Call (.Name "tuple" p) [a] [] pos) (teD X.K X.mg W fun en => (fa en).bind tupleD) := de_t1 call_tuple_of hm (by decide +kernel) op1_tuple ha hg (by decide) (by decide) he hpl
theorem de_max (hc : X.calm = true) (hm : X.mg "max" = none) (ha : PE X a (tpD X.K X.mg W fa)) (hb : PE X b (tpD X.K X.mg W fb)) (hg : Gl X "max" := by rfl)
    (he : starEach (a :: [b]) X.env = (false, eval a X.env) :: starEach [b] X.env := by rfl) (he2 : starEach (b :: []) X.env = (false, eval b X.env) :: starEach [] X.env := by rfl) (hpl : (backTo pos (starEach [b] X.env)).any (·.1) = false := by rfl) :
    PE X (.Call (.Name "max" p) [a, b] [] pos) (teD X.K X.mg W fun en => (fa en).bind fun y => (fb en).bind fun z => maxD y z) := de_b2 (call_max2 hc) hm (by decide +kernel) op2_max ha hb hg (by decide) (by decide) he he2 hpl
theorem de_min (hc : X.calm = true) (hm : X.mg "min" = none) (ha : PE X a (tpD X.K X.mg W fa)) (hb : PE X b (tpD X.K X.mg W fb)) (hg : Gl X "min" := by rfl)
    (he : starEach (a :: [b]) X.env = (false, eval a X.env) :: starEach [b] X.env := by rfl) (he2 : starEach (b :: []) X.env = (false, eval b X.env) :: starEach [] X.env := by rfl) (hpl : (backTo pos (starEach [b] X.env)).any (·.1) = false := by rfl) :
    PE X (.Call (.Name "min" p) [a, b] [] pos) (teD X.K X.mg W fun en => (fa en).bind fun y => (fb en).bind fun z => minD y z) := de_b2 (call_min2 hc) hm (by decide +kernel) op2_min ha hb hg (by decide) (by decide) he he2 hpl
/-- isinstance(a, T) -/
theorem de_isi {n : Str} {np : Pos} {T : String} (h5 : Five T) (hm : X.mg "isinstance" = none) (hmT : X.mg n = none) (hvT : bootBuiltins n = some (.type T)) (ha : PE X a (tpD X.K X.mg W fa)) (hg : Gl X "isinstance" := by rfl) (hgT : Gl X n := by rfl) (hnT : n ≠ "__name__" := by decide) (hdT : (n == ("__debug__" : Str)) = false := by decide)
    (he : starEach (a :: [.Name n np]) X.env = (false, eval a X.env) :: starEach [.Name n np] X.env := by rfl) (he2 : starEach (.Name n np :: []) X.env = (false, eval (.Name n np) X.env) :: starEach [] X.env := by rfl) (hpl : (backTo pos (starEach [.Name n np] X.env)).any (·.1) = false := by rfl) :
    PE X (.Call (.Name "isinstance" p) [a, .Name n np] [] pos) (teD X.K X.mg W fun en => (fa en).bind (isiD T)) :=
  PE.imp (pe_callB call_isi hg hm (by decide +kernel) (pa_cons ha (pa_cons (pe_bltn (v := .ty T) hgT hmT hvT rfl hnT hdT) pa_nil he2) he) (by decide) (by decide) he hpl) (look1 (op1_isi h5))
/-! ### arguments -/
theorem CellR_dat {K : PySem.W.Frag} {H : Hp} {O : Addr → Prop} {os : List Addr} {c : Cell} {v : V} {x : D} (n : ∀ a ∈ os, ¬ O a) (r : CellR K H (fun a => O a ∨ a ∈ os) os c v) (e : asD c = .ok x) : Dp K (hide H O) v x := by
  have s : Same (hide H (fun a => O a ∨ a ∈ os)) (hide H O) := hide_same (Same.refl H) fun _ _ _ z => .inl z
  cases c with
  | un => cases e
  | d y =>
    cases e
    exact Dp_mono s _ _ r.2
  | own ys =>
    cases e
    obtain ⟨a, vs, rfl, e2, e3, q⟩ := r
    exact .lst (SqL.of (hide_eq.mpr ⟨n a (by rw [e2]; exact List.mem_cons_self), e3⟩)) (DpAll_mono s _ _ q)
  | own2 yss =>
    cases e
    obtain ⟨a, as, rfl, e2, e3, q⟩ := r
    refine .lst (SqL.of (hide_eq.mpr ⟨n a (by rw [e2]; exact List.mem_cons_self), e3⟩)) ?_
    have na : ∀ b ∈ as, ¬ O b := fun b hb => n b (by rw [e2]; exact List.mem_cons_of_mem _ hb)
    clear e2 e3 n
    induction as generalizing yss with
    | nil =>
      cases yss with
      | nil => exact .nil
      | cons _ _ => exact q.elim
    | cons b as ih =>
      cases yss with
      | nil => exact q.elim
      | cons ys yss =>
        obtain ⟨⟨vs, e4, q1⟩, q2⟩ := q
        exact .cons (.lst (SqL.of (hide_eq.mpr ⟨na b List.mem_cons_self, e4⟩)) (DpAll_mono s _ _ q1)) (ih _ q2 fun b' hb => na b' (List.mem_cons_of_mem _ hb))
  | par _ _ => cases e
  | exc _ _ _ _ => cases e
variable {es : List Expr} {ga : Env → R (List D)}
def consR (x : R Cell) (r : R (List D)) : R (List D) := (x.bind asD).bind fun d => r.bind fun ds => .ok (d :: ds)
theorem asD_ex {c : Cell} {k : Str} {fs : List (Str × D)} (h : asD c = .ex k fs) : False := by
  unfold asD at h
  split at h <;> cases h
theorem da_nil : PA X [] (taD X.K X.mg W fun _ => .ok []) := PA.imp pa_nil fun σ H Q ⟨H0, O0, own, env, E, h⟩ => h [] H (Same.refl H) .nil
theorem da_cons (ha : PE X a (teD X.K X.mg W fa)) (hr : PA X es (taD X.K X.mg W ga)) (hs : starEach (a :: es) X.env = (false, eval a X.env) :: starEach es X.env := by rfl) : PA X (a :: es) (taD X.K X.mg W fun en => consR (fa en) (ga en)) := PA.imp (pa_cons ha hr hs) fun σ H Q ⟨H0, O0, own, env, E, h⟩ => by
  refine ⟨H0, O0, own, env, E, ?_⟩
  unfold consR at h
  cases q : fa env with
  | no => simp only [q, R.bind_no] at h; exact h
  | ex k fs => simp only [q, R.bind_ex] at h; exact h
  | ok c =>
    simp only [q, R.bind_ok] at h
    intro v H' os s fr nd r
    refine ⟨H0, O0, own, env, E.mono s, ?_⟩
    cases q2 : asD c with
    | no => simp only [q2, R.bind_no] at h; exact h.elim
    | ex k fs => exact (asD_ex q2).elim
    | ok d =>
      simp only [q2, R.bind_ok] at h
      have hd : Dp X.K (hide H' (tO O0 own)) v d := CellR_dat (fun a ha z => by
        obtain ⟨o, e⟩ := E.thereO a z
        rw [fr a ha] at e
        cases e) r q2
      cases q3 : ga env with
      | no => simp only [q3, R.bind_no] at h; exact h
      | ex k fs => simp only [q3, R.bind_ex] at h; exact fun H2 cls d' s' w => h H2 cls d' (s.trans s') w
      | ok ds =>
        simp only [q3, R.bind_ok] at h
        exact fun vs H2 s2 r2 => h (v :: vs) H2 (s.trans s2) (.cons (Dp_mono (hide_same s2 fun _ _ _ z => z) _ _ hd) r2)
def lstR (r : R (List D)) : R Cell := r.bind fun ds => if ds.length ≤ 16777216 then .ok (.own ds) else .no
def tupR (r : R (List D)) : R Cell := r.bind fun ds => if ds.length ≤ 16777216 then .ok (.d (.tuple ds)) else .no
theorem de_lst (ha : PA X es (taD X.K X.mg W ga)) : PE X (.List es pos) (teD X.K X.mg W fun en => lstR (ga en)) := PE.imp (pe_lst ha) fun σ H Q ⟨H0, O0, own, env, E, h⟩ => by
  refine ⟨H0, O0, own, env, E, ?_⟩
  unfold lstR at h
  cases q : ga env with
  | no => simp only [q, R.bind_no] at h; exact h
  | ex k fs => simp only [q, R.bind_ex] at h; exact h
  | ok ds =>
    simp only [q, R.bind_ok] at h
    intro vs H' s r
    split at h
    · rename_i hl
      exact ⟨by rw [DpAll_len r, sizeLine_eq]; exact hl, (Hand.mono s h).newL r⟩
    · exact h.elim
theorem de_tup {x1} (ha : PA X es (taD X.K X.mg W ga)) : PE X (.Tuple es x1 pos) (teD X.K X.mg W fun en => tupR (ga en)) := PE.imp (pe_tup ha) fun σ H Q ⟨H0, O0, own, env, E, h⟩ => by
  refine ⟨H0, O0, own, env, E, ?_⟩
  unfold tupR at h
  cases q : ga env with
  | no => simp only [q, R.bind_no] at h; exact h
  | ex k fs => simp only [q, R.bind_ex] at h; exact h
  | ok ds =>
    simp only [q, R.bind_ok] at h
    intro vs H' s r
    split at h
    · rename_i hl
      exact ⟨by rw [DpAll_len r, sizeLine_eq]; exact hl, (Hand.mono s h).newT (E.mono s).thereO r⟩
    · exact h.elim
end
end DL
/-! ## DL, part 5: slices, calls of defs, what is walked, comprehensions -/
namespace DL
open PySem PySem.Spec PyProof.Rows L2
/-! ### slices -/
def asI (c : Cell) : R (Option Int) := match c with
  | .d (.int i) => .ok (some i)
  | _ => .no
def HandO (K : PySem.W.Frag) (mg : Str → Option Value) (W : WX) (O : Addr → Prop) (H : Hp) (σ : L2.St) (r : R (Option Int)) (Q : Option Int → Hp → Prop) : Prop :=
  match r with
  | .no => False
  | .ok o => ∀ H', Same H H' → Q o H'
  | .ex k fs => ∀ H' cls d, Same H H' → ExcR K mg (hide H' O) cls d k fs → W cls d σ H'
def toD (K : PySem.W.Frag) (mg : Str → Option Value) (W : WX) (f : Env → R (Option Int)) : TO := fun σ H Q => ∃ H0 O0 own env, EnvOk K H0 H O0 own σ env ∧ HandO K mg W (tO O0 own) H σ (f env) Q
theorem PO.imp {X : Cx} {e : Option Expr} {t t' : TO} (h : PO X e t) (i : ∀ σ H Q, t' σ H Q → t σ H Q) : PO X e t' := ⟨fun pins s σ H Q I q => h.run pins s σ H Q I (i _ _ _ q)⟩
section
variable {X : Cx} {W : WX} {e a b c : Expr} {fa fb fc : Env → R Cell} {pos p2 : Pos} {lo hi : Option Expr} {fl fh : Env → R (Option Int)}
theorem dpo_none : PO X none (toD X.K X.mg W fun _ => .ok none) := PO.imp po_none fun σ H Q ⟨H0, O0, own, env, E, h⟩ => h H (Same.refl H)
theorem dpo_some (ha : PE X a (teD X.K X.mg W fa)) : PO X (some a) (toD X.K X.mg W fun en => (fa en).bind asI) := PO.imp (po_some ha) fun σ H Q ⟨H0, O0, own, env, E, h⟩ => by
  refine ⟨H0, O0, own, env, E, ?_⟩
  cases q : fa env with
  | no => simp only [q, R.bind_no] at h; exact h
  | ex k fs => simp only [q, R.bind_ex] at h; exact h
  | ok c =>
    simp only [q, R.bind_ok] at h
    intro v H' os s _ _ r
    unfold asI at h
    split at h
    · rename_i i
      have e := Dp_int r.2
      exact ⟨i, e, h H' s⟩
    · exact h.elim
theorem cut_rel {K : PySem.W.Frag} {H : Hp} {vs : List V} {xs : List D} (q : DpAll K H vs xs) (lo hi : Option Int) : DpAll K H (cutV vs lo hi) (cutD xs lo hi) := by
  unfold cutV cutD
  rw [DpAll_len q]
  exact DpAll_take _ (DpAll_drop _ q)
theorem cut_whole {α : Type} {xs : List α} {lo hi : Option Int} (h : HT.sIx xs.length 0 lo = 0 ∧ HT.sIx xs.length xs.length hi = xs.length) : cutD xs lo hi = xs := by
  unfold cutD
  rw [h.1, h.2]
  simp
theorem de_slice (ha : PE X a (tpD X.K X.mg W fa)) (hl : PO X lo (toD X.K X.mg W fl)) (hh : PO X hi (toD X.K X.mg W fh)) :
    PE X (.Subscript a (.Slice lo hi none p2) pos) (teD X.K X.mg W fun en => (fa en).bind fun x => (fl en).bind fun l => (fh en).bind fun u => sliceD x l u) :=
  PE.imp (pe_slice (SlR.or sl_list sl_tupA) ha hl hh) fun σ H Q ⟨H0, O0, own, env, E, h⟩ => by
  refine ⟨H0, O0, own, env, E, ?_⟩
  cases q : fa env with
  | no => simp only [q, R.bind_no] at h; exact h
  | ex k fs => simp only [q, R.bind_ex] at h; exact h
  | ok c =>
    simp only [q, R.bind_ok] at h
    intro v H1 s1 r1
    refine ⟨H0, O0, own, env, E.mono s1, ?_⟩
    cases q2 : fl env with
    | no => simp only [q2, R.bind_no] at h; exact h
    | ex k fs => simp only [q2, R.bind_ex] at h; exact fun H' cls d s' w => h H' cls d (s1.trans s') w
    | ok l =>
      simp only [q2, R.bind_ok] at h
      intro H2 s2
      refine ⟨H0, O0, own, env, E.mono (s1.trans s2), ?_⟩
      cases q3 : fh env with
      | no => simp only [q3, R.bind_no] at h; exact h
      | ex k fs => simp only [q3, R.bind_ex] at h; exact fun H' cls d s' w => h H' cls d ((s1.trans s2).trans s') w
      | ok u =>
        simp only [q3, R.bind_ok] at h
        intro H3 s3
        have s := (s1.trans s2).trans s3
        have h' := Hand.mono s h
        have r3 := PeekR_mono (s2.trans s3) (fun _ _ _ z => z) r1
        unfold sliceD at h'
        split at h'
        · obtain ⟨a, vs, rfl, s, q⟩ := Dp_seq (Peek_d r3)
          exact .inl ⟨a, vs, rfl, SqL_mono hide_sub s, h'.newL (cut_rel q l u)⟩
        · obtain ⟨a, vs, rfl, s, q⟩ := Peek_own r3
          exact .inl ⟨a, vs, rfl, SqL.of s, h'.newL (cut_rel q l u)⟩
        · obtain ⟨a, vs, rfl, sq, q⟩ := Dp_tup (Peek_d r3)
          refine .inr ⟨a, vs, rfl, SqT_mono hide_sub sq, fun w => ?_, fun _ => h'.newT (E.mono s).thereO (cut_rel q l u)⟩
          rw [DpAll_len q] at w
          rw [cut_whole w] at h'
          exact h'.dat (.tup sq q)
        · exact h'.elim
/-! ### a def's promise, its call -/
def spD (K : PySem.W.Frag) (mg : Str → Option Value) (n : Nat) (m : List D → R Cell) : Sp := fun vs H Q E => ∃ (O : Addr → Prop) (ds : List D), (∀ a, O a → ∃ o, H a = some o) ∧ ds.length = n ∧ DpAll K (hide H O) vs ds ∧
  match m ds with
  | .no => False
  | .ok c => ∀ v H' os, Same H H' → (∀ a ∈ os, H a = none) → os.Nodup → CellR K H' (fun a => O a ∨ a ∈ os) os c v → Q v H'
  | .ex k fs => ∀ H' cls d, Same H H' → ExcR K mg (hide H' O) cls d k fs → E cls d H'
variable {es : List Expr} {ga : Env → R (List D)} {k n : Nat} {f : Addr} {fd : FuncData} {ps : List Str} {m : List D → R Cell} {x : Str} {p : Pos}
theorem de_call (F : FnOk X.prog X.w X.K X.mg X.base (L2.CX X.prog X.w) k f fd ps (spD X.K X.mg n m)) (hr : Room k X.A) (tk : Takes X W) (hm : X.mg x = some (.ref f)) (hk : PySem.W.keepIn X.K (.ref f) = true) (hb : Binds X.K fd ps []) (ha : PA X (e :: es) (taD X.K X.mg W ga)) (hg : Gl X x := by rfl)
    (hdb : (x == ("__debug__" : Str)) = false := by decide) (he : starEach (e :: es) X.env = (false, eval e X.env) :: starEach es X.env := by rfl) (hpl : (backTo pos (starEach es X.env)).any (·.1) = false := by rfl) (hn : ∀ ds, ds.length ≠ n → m ds = .no := by intro ds h; rfl) :
    PE X (.Call (.Name x p) (e :: es) [] pos) (teD X.K X.mg W fun en => (ga en).bind m) := PE.imp (pe_callS F hr hg hm hk hb (fun σ => passAt tk σ) ha hdb he hpl) fun σ H Q ⟨H0, O0, own, env, E, h⟩ => by
  refine ⟨H0, O0, own, env, E, ?_⟩
  cases q : ga env with
  | no => simp only [q, R.bind_no] at h; exact h
  | ex k fs => simp only [q, R.bind_ex] at h; exact h
  | ok ds =>
    simp only [q, R.bind_ok] at h
    intro vs H1 s1 r1
    by_cases hl : ds.length = n
    · refine ⟨tO O0 own, ds, (E.mono s1).thereO, hl, r1, ?_⟩
      cases q2 : m ds with
      | no => rw [q2] at h; exact h
      | ok c =>
        rw [q2] at h
        exact fun v H' os s f nd r => h v H' os (s1.trans s) (fun a ha => s1.free (f a ha)) nd r
      | ex k fs =>
        rw [q2] at h
        exact fun H' cls d s w => h H' cls d (s1.trans s) w
    · rw [hn ds hl] at h
      exact h.elim
/-- an exception is not told -/
def R.quiet {α : Type} : R α → R α
  | .ex _ _ => .no
  | r => r
theorem de_call0 (F : FnOk X.prog X.w X.K X.mg X.base (L2.CX X.prog X.w) k f fd ps (spD X.K X.mg 0 m)) (hr : Room k X.A) (hm : X.mg x = some (.ref f)) (hk : PySem.W.keepIn X.K (.ref f) = true) (hb : Binds X.K fd ps []) (hg : Gl X x := by rfl) (hdb : (x == ("__debug__" : Str)) = false := by decide) :
    PE X (.Call (.Name x p) [] [] pos) (teD X.K X.mg W fun _ => (m []).quiet) := PE.imp (pe_call0 (dvs := []) F hr hg hm hk hb .nil passL hdb) fun σ H Q ⟨H0, O0, own, env, E, h⟩ => by
  refine ⟨tO O0 own, [], E.thereO, rfl, .nil, ?_⟩
  cases q2 : m [] with
  | no => rw [q2] at h; exact h
  | ok c => rw [q2] at h; exact h
  | ex k fs => rw [q2] at h; exact h.elim
/-- the arguments looked at (own lists lent); nothing of them comes back -/
def flatD : D → Bool
  | .none => true
  | .bool _ => true
  | .int _ => true
  | .str _ => true
  | _ => false
def R.lent (r : R Cell) : R Cell := match r with
  | .ok (.d x) => if flatD x = true then .ok (.d x) else .no
  | .ok _ => .no
  | .no => .no
  | .ex _ _ => .no
def viewAll : List Cell → R (List D)
  | [] => .ok []
  | c :: cs => match c.view with
    | some x => (viewAll cs).bind fun xs => .ok (x :: xs)
    | none => .no
theorem viewAll_ok {K : PySem.W.Frag} {H : Hp} {O : Addr → Prop} : ∀ {cs : List Cell} {vs : List V} {ds : List D}, PeekAll K H O cs vs → viewAll cs = .ok ds → DpAll K H vs ds
  | [], [], _, _, e => by cases e; exact .nil
  | c :: cs, v :: vs, ds, ⟨q, r⟩, e => by
    unfold viewAll at e
    split at e
    · rename_i x ev
      cases q2 : viewAll cs with
      | no => rw [q2] at e; cases e
      | ex k fs => rw [q2] at e; cases e
      | ok xs =>
        rw [q2] at e
        cases e
        exact .cons (Peek_view q ev) (viewAll_ok r q2)
    · cases e
  | [], _ :: _, _, r, _ => r.elim
  | _ :: _, [], _, r, _ => r.elim
theorem viewAll_ex : ∀ {cs : List Cell} {k : Str} {fs : List (Str × D)}, viewAll cs = .ex k fs → False
  | [], _, _, e => by cases e
  | c :: cs, k, fs, e => by
    unfold viewAll at e
    split at e
    · cases q2 : viewAll cs with
      | no => rw [q2] at e; cases e
      | ok xs => rw [q2] at e; cases e
      | ex k' fs' => exact viewAll_ex q2
    · cases e
def consC (x : R Cell) (r : R (List Cell)) : R (List Cell) := x.bind fun d => r.bind fun ds => .ok (d :: ds)
variable {gc : Env → R (List Cell)}
theorem dc_nil : PA X [] (tcD X.K X.mg W fun _ => .ok []) := PA.imp pa_nil fun σ H Q ⟨H0, O0, own, env, E, h⟩ => h [] H (Same.refl H) trivial
theorem dc_cons (ha : PE X a (tpD X.K X.mg W fa)) (hr : PA X es (tcD X.K X.mg W gc)) (hs : starEach (a :: es) X.env = (false, eval a X.env) :: starEach es X.env := by rfl) : PA X (a :: es) (tcD X.K X.mg W fun en => consC (fa en) (gc en)) := PA.imp (pa_cons ha hr hs) fun σ H Q ⟨H0, O0, own, env, E, h⟩ => by
  refine ⟨H0, O0, own, env, E, ?_⟩
  unfold consC at h
  cases q : fa env with
  | no => simp only [q, R.bind_no] at h; exact h
  | ex k fs => simp only [q, R.bind_ex] at h; exact h
  | ok c =>
    simp only [q, R.bind_ok] at h
    intro v H' s r
    refine ⟨H0, O0, own, env, E.mono s, ?_⟩
    cases q3 : gc env with
    | no => simp only [q3, R.bind_no] at h; exact h
    | ex k fs => simp only [q3, R.bind_ex] at h; exact fun H2 cls d' s' w => h H2 cls d' (s.trans s') w
    | ok ds =>
      simp only [q3, R.bind_ok] at h
      exact fun vs H2 s2 r2 => h (v :: vs) H2 (s.trans s2) ⟨PeekR_mono s2 (fun _ _ _ z => z) r, r2⟩
theorem hide_no {H : Hp} {O : Addr → Prop} (hO : ∀ a, ¬ O a) : Same H (hide H O) := fun a o e => hide_eq.mpr ⟨hO a, e⟩
theorem Dp_flat {K : PySem.W.Frag} {H H' : Hp} {v : V} {x : D} (h : Dp K H v x) (f : flatD x = true) : Dp K H' v x := by
  cases h with
  | non => exact .non
  | bl b => exact .bl b
  | int i => exact .int i
  | str s => exact .str s
  | lst _ _ => cases f
  | tup _ _ => cases f
theorem de_lend (F : FnOk X.prog X.w X.K X.mg X.base (L2.CX X.prog X.w) k f fd ps (spD X.K X.mg n m)) (hr : Room k X.A) (tk : Takes X W) (hm : X.mg x = some (.ref f)) (hk : PySem.W.keepIn X.K (.ref f) = true) (hb : Binds X.K fd ps []) (ha : PA X (e :: es) (tcD X.K X.mg W gc)) (hg : Gl X x := by rfl)
    (hdb : (x == ("__debug__" : Str)) = false := by decide) (he : starEach (e :: es) X.env = (false, eval e X.env) :: starEach es X.env := by rfl) (hpl : (backTo pos (starEach es X.env)).any (·.1) = false := by rfl) (hn : ∀ ds, ds.length ≠ n → m ds = .no := by intro ds h; rfl) :
    PE X (.Call (.Name x p) (e :: es) [] pos) (teD X.K X.mg W fun en => (gc en).bind fun cs => (viewAll cs).bind fun ds => (m ds).lent) := PE.imp (pe_callS F hr hg hm hk hb (fun σ => passAt tk σ) ha hdb he hpl) fun σ H Q ⟨H0, O0, own, env, E, h⟩ => by
  refine ⟨H0, O0, own, env, E, ?_⟩
  cases q : gc env with
  | no => simp only [q, R.bind_no] at h; exact h
  | ex k fs => simp only [q, R.bind_ex] at h; exact h
  | ok cs =>
    simp only [q, R.bind_ok] at h
    intro vs H1 s1 r1
    cases q1 : viewAll cs with
    | no => simp only [q1, R.bind_no] at h; exact h.elim
    | ex k fs => exact (viewAll_ex q1).elim
    | ok ds =>
      simp only [q1, R.bind_ok] at h
      by_cases hl : ds.length = n
      · refine ⟨fun _ => False, ds, fun a z => z.elim, hl, DpAll_mono (hide_no fun _ z => z) _ _ (viewAll_ok r1 q1), ?_⟩
        cases q2 : m ds with
        | no => rw [q2] at h; exact h
        | ex k fs =>
          rw [q2] at h
          exact h.elim
        | ok c =>
          rw [q2] at h
          unfold R.lent at h
          cases c with
          | un => exact h.elim
          | own _ => exact h.elim
          | own2 _ => exact h.elim
          | par _ _ => exact h.elim
          | exc _ _ _ _ => exact h.elim
          | d y =>
            dsimp only at h
            split at h
            · rename_i hf
              intro v H' os s fr nd r
              refine h v H' [] (s1.trans s) (fun a ha => by cases ha) List.nodup_nil ⟨rfl, Dp_flat r.2 hf⟩
            · exact h.elim
      · rw [hn ds hl] at h
        exact h.elim
end
end DL
/-! ## DL, part 6: targets, what is walked, comprehensions -/
namespace DL
open PySem PySem.Spec PyProof.Rows L2
/-! ### targets -/
def gNames : List Nat → TGs
  | [] => gNil
  | i :: is => gCons (gName i) (gNames is)
def Tg.tg (K : PySem.W.Frag) : Tg → TG
  | .nm i => gName i
  | .tp is => gTup K is.length (gNames is)
theorem wipe_set_mem {i : Nat} {x : Option V} : ∀ {vs : List Nat} {σ : L2.St}, i ∈ vs → wipe (σ.set i x) vs = wipe σ vs := by
  have both : ∀ (vs : List Nat) (σ : L2.St), (i ∈ vs → wipe (σ.set i x) vs = wipe σ vs) ∧ (i ∉ vs → wipe (σ.set i x) vs = (wipe σ vs).set i x) := by
    intro vs
    induction vs with
    | nil => exact fun σ => ⟨fun h => (by cases h), fun _ => rfl⟩
    | cons v vs ih =>
      intro σ
      obtain ⟨h1, h2⟩ := ih σ
      constructor
      · intro h
        show (wipe (σ.set i x) vs).set v none = (wipe σ vs).set v none
        by_cases hv : i ∈ vs
        · rw [h1 hv]
        · have e : i = v := by
            cases h with
            | head => rfl
            | tail _ h => exact absurd h hv
          rw [h2 hv, e, List.set_set]
      · intro h
        show (wipe (σ.set i x) vs).set v none = ((wipe σ vs).set v none).set i x
        have hv : i ∉ vs := fun z => h (List.mem_cons_of_mem _ z)
        have hi : i ≠ v := fun z => h (by rw [z]; exact List.mem_cons_self)
        rw [h2 hv, List.set_comm _ _ hi]
  exact fun {vs σ} h => (both vs σ).1 h
section
variable {K : PySem.W.Frag} {H0 H H' : Hp} {O0 : Addr → Prop} {own : Nat → List Addr} {σ : L2.St} {env : Env}
/-- data into a slot -/
theorem EnvOk.put (E : EnvOk K H0 H O0 own σ env) (i : Nat) {x : D} {v : V} (q : Dp K (hide H (tO O0 own)) v x) : ∃ own', EnvOk K H0 H O0 own' (σ.set i (some v)) (env.set i (.d x)) ∧ (∀ a, tO O0 own' a → tO O0 own a) ∧ ((i < env.length → own i = []) → own' = own) := by
  have sub : ∀ a, tO O0 (ownSet own i []) a → tO O0 own a := fun a z => by
    rcases z with z | ⟨j, z⟩
    · exact .inl z
    · unfold ownSet at z
      by_cases hj : j = i
      · rw [if_pos hj] at z
        cases z
      · rw [if_neg hj] at z
        exact .inr ⟨j, z⟩
  by_cases hi : i < env.length
  · refine ⟨_, E.set (c := .d x) (os := []) hi E.same (fun _ _ e _ => e) (fun _ _ _ _ _ e => e) (fun a ha => by cases ha) (fun a ha => by cases ha) (fun a ha => by cases ha) List.nodup_nil ⟨v, rfl, rfl, ?_⟩, sub, fun z => by
      funext j
      unfold ownSet
      by_cases hj : j = i
      · rw [if_pos hj, hj, z hi]
      · rw [if_neg hj]⟩
    exact Dp_mono (hide_same (Same.refl H) fun a o _ z => sub a z) _ _ q
  · refine ⟨own, ?_, fun a z => z, fun _ => rfl⟩
    rw [List.set_eq_of_length_le (by rw [E.len]; omega), List.set_eq_of_length_le (by omega)]
    exact E
theorem names_ok {Q : L2.St → Hp → Prop} {W0 : Addr → Prop} : ∀ (is : List Nat) (vs : List V) (xs : List D) (own : Nat → List Addr) (σ : L2.St) (env : Env), EnvOk K H0 H O0 own σ env → (∀ a, tO O0 own a → W0 a) → DpAll K (hide H W0) vs xs → is.length = xs.length →
    (∀ σ' own', EnvOk K H0 H O0 own' σ' (putAll is xs env) → (∀ a, tO O0 own' a → tO O0 own a) → (∀ ws, (∀ i ∈ is, i ∈ ws) → wipe σ' ws = wipe σ ws) → ((∀ i ∈ is, i < env.length → own i = []) → own' = own) → Q σ' H) → gNames is vs σ H Q
  | [], vs, xs, own, σ, env, E, sw, q, hl, h => by
    cases q with
    | nil => exact ⟨rfl, h σ own E (fun _ z => z) (fun _ _ => rfl) fun _ => rfl⟩
    | cons _ _ => cases hl
  | i :: is, vs, xs, own, σ, env, E, sw, q, hl, h => by
    cases q with
    | nil => cases hl
    | @cons v vs x xs q1 q2 =>
      obtain ⟨own', E', sub, ek⟩ := E.put i (Dp_mono (hide_same (Same.refl H) fun a o _ z => sw a z) _ _ q1)
      refine ⟨v, vs, rfl, ?_⟩
      refine names_ok is vs xs own' _ _ E' (fun a z => sw a (sub a z)) q2 (by simpa using hl) fun σ' own2 E2 sub2 hw ek2 => ?_
      refine h σ' own2 E2 (fun a z => sub a (sub2 a z)) (fun ws hi => ?_) fun z => ?_
      · rw [hw ws fun j hj => hi j (List.mem_cons_of_mem _ hj)]
        exact wipe_set_mem (hi i List.mem_cons_self)
      · have e1 := ek fun hl => z i List.mem_cons_self hl
        rw [ek2 fun j hj hl => by
          rw [List.length_set] at hl
          rw [e1]
          exact z j (List.mem_cons_of_mem _ hj) hl]
        exact e1
theorem tg_ok {Q : L2.St → Hp → Prop} (T : Tg) {x : D} {v : V} {env' : Env} (E : EnvOk K H0 H O0 own σ env) (q : Dp K (hide H (tO O0 own)) v x) (e : T.put x env = some env')
    (h : ∀ σ' own', EnvOk K H0 H O0 own' σ' env' → (∀ a, tO O0 own' a → tO O0 own a) → (∀ ws, (∀ i ∈ T.slots, i ∈ ws) → wipe σ' ws = wipe σ ws) → ((∀ i ∈ T.slots, i < env.length → own i = []) → own' = own) → Q σ' H) : T.tg K v σ H Q := by
  cases T with
  | nm i =>
    cases e
    obtain ⟨own', E', sub, ek⟩ := E.put i q
    exact h _ own' E' sub (fun ws hi => wipe_set_mem (hi i (List.mem_singleton.mpr rfl))) fun z => ek (z i (List.mem_singleton.mpr rfl))
  | tp is =>
    cases x with
    | tuple xs =>
      obtain ⟨a, vs, rfl, s, q⟩ := Dp_tup q
      unfold Tg.put at e
      dsimp only at e
      split at e
      · rename_i hl
        cases e
        refine ⟨a, vs, rfl, SqT_mono hide_sub s, by rw [DpAll_len q]; exact hl, ?_⟩
        exact names_ok is vs xs own σ env E (fun _ z => z) q hl.symm h
      · cases e
    | _ => cases e
end
/-! ### what is walked -/
/-- the walk J, begun at H1, goes over data xs, as long as what stood stands -/
def ItS (K : PySem.W.Frag) (H1 : Hp) (O : Addr → Prop) (J : It) (xs : List D) : Prop := ∀ i H2, Same H1 H2 →
  (∀ x, xs[i]? = some x → J.go i H2 ∧ ∀ v H', J.yld i H2 v H' → H' = H2 ∧ Dp K (hide H1 O) v x) ∧ (xs.length ≤ i → J.stop i H2)
/-- .. as long as what nobody owns stands -/
def ItF (K : PySem.W.Frag) (H1 : Hp) (O : Addr → Prop) (J : It) (xs : List D) : Prop := ∀ i H2 O2, Same (hide H1 O) (hide H2 O2) →
  (∀ x, xs[i]? = some x → J.go i H2 ∧ ∀ v H', J.yld i H2 v H' → H' = H2 ∧ Dp K (hide H1 O) v x) ∧ (xs.length ≤ i → J.stop i H2)
theorem ItF.s {K : PySem.W.Frag} {H1 : Hp} {O : Addr → Prop} {J : It} {xs : List D} (h : ItF K H1 O J xs) : ItS K H1 O J xs := fun i H2 s => h i H2 O (hide_same s fun _ _ _ z => z)
def HandI (K : PySem.W.Frag) (mg : Str → Option Value) (W : WX) (O : Addr → Prop) (H : Hp) (σ : L2.St) (I : Hp → It → List D → Prop) (r : R (List D)) (P : It → Hp → Prop) : Prop :=
  match r with
  | .no => False
  | .ok xs => ∀ J H1, Same H H1 → I H1 J xs → P J H1
  | .ex k fs => ∀ H' cls d, Same H H' → ExcR K mg (hide H' O) cls d k fs → W cls d σ H'
def wcD (K : PySem.W.Frag) (mg : Str → Option Value) (W : WX) (fi : Env → R (List D)) : TI := fun σ H P => ∃ H0 O0 own env, EnvOk K H0 H O0 own σ env ∧ HandI K mg W (tO O0 own) H σ (fun H1 J xs => ItS K H1 (tO O0 own) J xs) (fi env) P
def wfD (K : PySem.W.Frag) (mg : Str → Option Value) (W : WX) (fi : Env → R (List D)) : TI := fun σ H P => ∃ H0 O0 own env, EnvOk K H0 H O0 own σ env ∧ HandI K mg W (tO O0 own) H σ (fun H1 J xs => ItF K H1 (tO O0 own) J xs) (fi env) P
section
variable {X : Cx} {W : WX} {tg e l a b c : Expr} {fa fb fc : Env → R Cell} {fi : Env → R (List D)} {pos p : Pos}
theorem PI.imp {t t' : TI} (h : PI X tg l t) (i : ∀ σ H Q, t' σ H Q → t σ H Q) : PI X tg l t' := ⟨fun pins s σ H Q I q => h.run pins s σ H Q I (i _ _ _ q)⟩
theorem di_of (h : PI X tg l (wfD X.K X.mg W fi)) : PI X tg l (wcD X.K X.mg W fi) := PI.imp h fun σ H P ⟨H0, O0, own, env, E, h⟩ => by
  refine ⟨H0, O0, own, env, E, ?_⟩
  cases q : fi env with
  | no => rw [q] at h; exact h
  | ex k fs => rw [q] at h; exact h
  | ok xs =>
    rw [q] at h
    exact fun J H1 s i => h J H1 s i.s
theorem itS_l {K : PySem.W.Frag} {H1 : Hp} {O : Addr → Prop} {a : Addr} {vs : List V} {xs : List D} (s : SqL K H1 a vs) (q : DpAll K (hide H1 O) vs xs) : ItS K H1 O (Itl K a) xs := fun i H2 k => by
  refine ⟨fun x e => ?_, fun e => ⟨vs, SqL_mono k s, by rw [DpAll_len q]; exact e⟩⟩
  obtain ⟨v, e1, e2⟩ := DpAll_get q e
  refine ⟨⟨vs, v, SqL_mono k s, e1⟩, fun u H' y => ⟨y.1, ?_⟩⟩
  have e3 := y.2 vs (SqL_mono k s)
  rw [e1] at e3
  cases e3
  exact e2
theorem itS_t {K : PySem.W.Frag} {H1 : Hp} {O : Addr → Prop} {a : Addr} {vs : List V} {xs : List D} (s : SqT K H1 a vs) (q : DpAll K (hide H1 O) vs xs) : ItS K H1 O (Itt K a) xs := fun i H2 k => by
  refine ⟨fun x e => ?_, fun e => ⟨vs, SqT_mono k s, by rw [DpAll_len q]; exact e⟩⟩
  obtain ⟨v, e1, e2⟩ := DpAll_get q e
  refine ⟨⟨vs, v, SqT_mono k s, e1⟩, fun u H' y => ⟨y.1, ?_⟩⟩
  have e3 := y.2 vs (SqT_mono k s)
  rw [e1] at e3
  cases e3
  exact e2
theorem itF_l {K : PySem.W.Frag} {H1 : Hp} {O : Addr → Prop} {a : Addr} {vs : List V} {xs : List D} (s : SqL K (hide H1 O) a vs) (q : DpAll K (hide H1 O) vs xs) : ItF K H1 O (Itl K a) xs := fun i H2 O2 k => by
  have k' : Same (hide H1 O) H2 := k.trans hide_sub
  refine ⟨fun x e => ?_, fun e => ⟨vs, SqL_mono k' s, by rw [DpAll_len q]; exact e⟩⟩
  obtain ⟨v, e1, e2⟩ := DpAll_get q e
  refine ⟨⟨vs, v, SqL_mono k' s, e1⟩, fun u H' y => ⟨y.1, ?_⟩⟩
  have e3 := y.2 vs (SqL_mono k' s)
  rw [e1] at e3
  cases e3
  exact e2
theorem itF_t {K : PySem.W.Frag} {H1 : Hp} {O : Addr → Prop} {a : Addr} {vs : List V} {xs : List D} (s : SqT K (hide H1 O) a vs) (q : DpAll K (hide H1 O) vs xs) : ItF K H1 O (Itt K a) xs := fun i H2 O2 k => by
  have k' : Same (hide H1 O) H2 := k.trans hide_sub
  refine ⟨fun x e => ?_, fun e => ⟨vs, SqT_mono k' s, by rw [DpAll_len q]; exact e⟩⟩
  obtain ⟨v, e1, e2⟩ := DpAll_get q e
  refine ⟨⟨vs, v, SqT_mono k' s, e1⟩, fun u H' y => ⟨y.1, ?_⟩⟩
  have e3 := y.2 vs (SqT_mono k' s)
  rw [e1] at e3
  cases e3
  exact e2
/-- a list or a tuple that is looked at: for a comprehension -/
theorem di_seq (ha : PE X l (tpD X.K X.mg W fa)) : PI X tg l (wcD X.K X.mg W fun en => (fa en).bind itemsR) := ⟨fun pins s σ H P I ⟨H0, O0, own, env, E, h⟩ => by
  cases q : fa env with
  | no => simp only [q, R.bind_no] at h; exact h.elim
  | ex k fs =>
    simp only [q, R.bind_ex] at h
    refine (pi_list ha).run pins s σ H P I ⟨H0, O0, own, env, E, ?_⟩
    rw [q]
    exact h
  | ok c =>
    simp only [q, R.bind_ok] at h
    have look : ∀ xs, c.items = some xs → (∀ J H1, Same H H1 → ItS X.K H1 (tO O0 own) J xs → P J H1) → wpAny (model X.prog X.w) X.A (eval l X.env) (fun v s1 => wpAny (model X.prog X.w) X.A (pyIter v) (PIE X pins σ tg P) X.xe s1) X.xe s := fun xs ex h => by
      cases c with
      | un => cases ex
      | own2 _ => cases ex
      | par _ _ => cases ex
      | exc _ _ _ _ => cases ex
      | own ys =>
        cases ex
        refine (pi_list ha).run pins s σ H P I ⟨H0, O0, own, env, E, ?_⟩
        rw [q]
        intro v H1 s1 r
        obtain ⟨a, vs, e1, e2, e3⟩ := Peek_own r
        exact ⟨a, e1, ⟨vs, SqL.of e2⟩, h _ H1 s1 (itS_l (SqL.of e2) e3)⟩
      | d y =>
        cases y with
        | list ys =>
          cases ex
          refine (pi_list ha).run pins s σ H P I ⟨H0, O0, own, env, E, ?_⟩
          rw [q]
          intro v H1 s1 r
          obtain ⟨a, vs, e1, e2, e3⟩ := Dp_seq (Peek_d r)
          exact ⟨a, e1, ⟨vs, SqL_mono hide_sub e2⟩, h _ H1 s1 (itS_l (SqL_mono hide_sub e2) e3)⟩
        | tuple ys =>
          cases ex
          refine (pi_tup ha).run pins s σ H P I ⟨H0, O0, own, env, E, ?_⟩
          rw [q]
          intro v H1 s1 r
          obtain ⟨a, vs, e1, e2, e3⟩ := Dp_tup (Peek_d r)
          exact ⟨a, e1, ⟨vs, SqT_mono hide_sub e2⟩, h _ H1 s1 (itS_t (SqT_mono hide_sub e2) e3)⟩
        | _ => cases ex
    unfold itemsR at h
    cases q2 : c.items with
    | none =>
      simp only [q2] at h
      exact h.elim
    | some xs =>
      simp only [q2] at h
      exact look xs q2 h⟩
/-- a list or a tuple, data or new: for a loop -/
theorem df_seq (ha : PE X l (teD X.K X.mg W fa)) : PI X tg l (wfD X.K X.mg W fun en => (fa en).bind itemsR) := ⟨fun pins s σ H P I ⟨H0, O0, own, env, E, h⟩ => by
  cases q : fa env with
  | no => simp only [q, R.bind_no] at h; exact h.elim
  | ex k fs =>
    simp only [q, R.bind_ex] at h
    refine (pi_list ha).run pins s σ H P I ⟨H0, O0, own, env, E, ?_⟩
    rw [q]
    exact h
  | ok c =>
    simp only [q, R.bind_ok] at h
    have big : ∀ {H1 : Hp} {os : List Addr}, Same (hide H1 (fun a => tO O0 own a ∨ a ∈ os)) (hide H1 (tO O0 own)) := fun {H1 os} => hide_same (Same.refl H1) fun _ _ _ z => .inl z
    have look : ∀ xs, c.items = some xs → (∀ J H1, Same H H1 → ItF X.K H1 (tO O0 own) J xs → P J H1) → wpAny (model X.prog X.w) X.A (eval l X.env) (fun v s1 => wpAny (model X.prog X.w) X.A (pyIter v) (PIE X pins σ tg P) X.xe s1) X.xe s := fun xs ex h => by
      cases c with
      | un => cases ex
      | own2 _ => cases ex
      | par _ _ => cases ex
      | exc _ _ _ _ => cases ex
      | own ys =>
        cases ex
        refine (pi_list ha).run pins s σ H P I ⟨H0, O0, own, env, E, ?_⟩
        rw [q]
        intro v H1 os s1 fr nd r
        obtain ⟨a, vs, e1, eo, e2, e3⟩ := r
        have na : ¬ tO O0 own a := fun z => by
          obtain ⟨o, w⟩ := E.thereO a z
          have z2 := fr a (by rw [eo]; exact List.mem_cons_self)
          rw [w] at z2
          cases z2
        exact ⟨a, e1, ⟨vs, SqL.of e2⟩, h _ H1 s1 (itF_l (SqL.of (hide_eq.mpr ⟨na, e2⟩)) (DpAll_mono big _ _ e3))⟩
      | d y =>
        cases y with
        | list ys =>
          cases ex
          refine (pi_list ha).run pins s σ H P I ⟨H0, O0, own, env, E, ?_⟩
          rw [q]
          intro v H1 os s1 fr nd r
          obtain ⟨a, vs, e1, e2, e3⟩ := Dp_seq (Dp_mono big _ _ r.2)
          exact ⟨a, e1, ⟨vs, SqL_mono hide_sub e2⟩, h _ H1 s1 (itF_l e2 e3)⟩
        | tuple ys =>
          cases ex
          refine (pi_tup ha).run pins s σ H P I ⟨H0, O0, own, env, E, ?_⟩
          rw [q]
          intro v H1 os s1 fr nd r
          obtain ⟨a, vs, e1, e2, e3⟩ := Dp_tup (Dp_mono big _ _ r.2)
          exact ⟨a, e1, ⟨vs, SqT_mono hide_sub e2⟩, h _ H1 s1 (itF_t e2 e3)⟩
        | _ => cases ex
    unfold itemsR at h
    cases q2 : c.items with
    | none =>
      simp only [q2] at h
      exact h.elim
    | some xs =>
      simp only [q2] at h
      exact look xs q2 h⟩
theorem up_get {lo : Int} {n i : Nat} {x : D} (h : (upFrom lo n)[i]? = some x) : i < n ∧ x = .int (lo + (i : Nat)) := by
  unfold upFrom at h
  rw [List.getElem?_map, Option.map_eq_some_iff] at h
  obtain ⟨j, h1, h2⟩ := h
  obtain ⟨h3, h4⟩ := List.getElem?_eq_some_iff.mp h1
  rw [List.length_range] at h3
  rw [List.getElem_range] at h4
  subst h4
  exact ⟨h3, h2.symm⟩
theorem step_get {lo c : Int} {n i : Nat} {x : D} (h : (stepFrom lo c n)[i]? = some x) : i < n ∧ x = .int (lo + (i : Nat) * c) := by
  unfold stepFrom at h
  rw [List.getElem?_map, Option.map_eq_some_iff] at h
  obtain ⟨j, h1, h2⟩ := h
  obtain ⟨h3, h4⟩ := List.getElem?_eq_some_iff.mp h1
  rw [List.length_range] at h3
  rw [List.getElem_range] at h4
  subst h4
  exact ⟨h3, h2.symm⟩
theorem itF_r {K : PySem.W.Frag} {H1 : Hp} {O : Addr → Prop} {lo : Int} {n : Nat} : ItF K H1 O (Itr lo n) (upFrom lo n) := fun i H2 O2 k => by
  refine ⟨fun x e => ?_, fun e => ?_⟩
  · obtain ⟨h1, h2⟩ := up_get e
    refine ⟨h1, fun v H' y => ⟨y.1, ?_⟩⟩
    rw [y.2, h2]
    exact .int _
  · have z : (upFrom lo n).length = n := by unfold upFrom; simp
    rw [z] at e
    exact e
theorem itF_c {K : PySem.W.Frag} {H1 : Hp} {O : Addr → Prop} {lo c : Int} {n : Nat} : ItF K H1 O (Itc lo c n) (stepFrom lo c n) := fun i H2 O2 k => by
  refine ⟨fun x e => ?_, fun e => ?_⟩
  · obtain ⟨h1, h2⟩ := step_get e
    refine ⟨h1, fun v H' y => ⟨y.1, ?_⟩⟩
    rw [y.2, h2]
    exact .int _
  · have z : (stepFrom lo c n).length = n := by unfold stepFrom; simp
    rw [z] at e
    exact e
theorem Hand_int {mg : Str → Option Value} {W : WX} {K : PySem.W.Frag} {H' : Hp} {O : Addr → Prop} {os : List Addr} {i : Int} {v : V} (r : CellR K H' O os (.d (.int i)) v) : v = .int i := Dp_int r.2
/-- range(a) -/
theorem df_rng1 (hm : X.mg "range" = none) (ha : PE X a (teD X.K X.mg W fa)) (hg : Gl X "range" := by rfl) (hs : starEach [a] X.env = [(false, eval a X.env)] := by rfl) : PI X tg (.Call (.Name "range" p) [a] [] pos) (wfD X.K X.mg W fun en => (fa en).bind rng1D) :=
  PI.imp (pi_range1 hg hm (pa_cons ha pa_nil hs) hs) fun σ H P ⟨H0, O0, own, env, E, h⟩ => by
  refine ⟨H0, O0, own, env, E, ?_⟩
  cases q : fa env with
  | no => simp only [q, R.bind_no] at h; exact h
  | ex k fs => simp only [q, R.bind_ex] at h; exact h
  | ok c =>
    simp only [q, R.bind_ok] at h
    intro v H1 os s1 fr nd r
    unfold rng1D at h
    split at h
    · rename_i j
      have e : v = .int j := Dp_int r.2
      subst e
      split at h
      · rename_i hb
        exact ⟨j, rfl, hb.1, hb.2, h _ H1 s1 itF_r⟩
      · exact h.elim
    · exact h.elim
/-- range(a, b) -/
theorem df_rng2 (hm : X.mg "range" = none) (ha : PE X a (teD X.K X.mg W fa)) (hb : PE X b (teD X.K X.mg W fb)) (hg : Gl X "range" := by rfl) (hs : starEach [a, b] X.env = [(false, eval a X.env), (false, eval b X.env)] := by rfl) (hs2 : starEach [b] X.env = [(false, eval b X.env)] := by rfl)
    (h1 : starEach (a :: [b]) X.env = (false, eval a X.env) :: starEach [b] X.env := by rfl) : PI X tg (.Call (.Name "range" p) [a, b] [] pos) (wfD X.K X.mg W fun en => (fa en).bind fun x => (fb en).bind fun y => rng2D x y) :=
  PI.imp (pi_range2 hg hm (pa_cons ha (pa_cons hb pa_nil hs2) h1) hs hs2) fun σ H P ⟨H0, O0, own, env, E, h⟩ => by
  refine ⟨H0, O0, own, env, E, ?_⟩
  cases q : fa env with
  | no => simp only [q, R.bind_no] at h; exact h
  | ex k fs => simp only [q, R.bind_ex] at h; exact h
  | ok c =>
    simp only [q, R.bind_ok] at h
    intro v H1 os s1 fr nd r
    refine ⟨H0, O0, own, env, E.mono s1, ?_⟩
    cases q2 : fb env with
    | no => simp only [q2, R.bind_no] at h; exact h
    | ex k fs => simp only [q2, R.bind_ex] at h; exact fun H' cls d s' w => h H' cls d (s1.trans s') w
    | ok c2 =>
      simp only [q2, R.bind_ok] at h
      intro v2 H2 os2 s2 fr2 nd2 r2
      unfold rng2D at h
      split at h
      · rename_i i j
        have e : v = .int i := Dp_int r.2
        have e2 : v2 = .int j := Dp_int r2.2
        subst e e2
        split at h
        · rename_i hb
          exact ⟨i, j, rfl, hb, h _ H2 (s1.trans s2) itF_r⟩
        · exact h.elim
      · exact h.elim
/-- range(a, b, -1) -/
theorem df_rng3 (hm : X.mg "range" = none) (ha : PE X a (teD X.K X.mg W fa)) (hb : PE X b (teD X.K X.mg W fb)) (hc : PE X c (teD X.K X.mg W fc)) (hg : Gl X "range" := by rfl)
    (h1 : starEach (a :: [b, c]) X.env = (false, eval a X.env) :: starEach [b, c] X.env := by rfl) (h2 : starEach (b :: [c]) X.env = (false, eval b X.env) :: starEach [c] X.env := by rfl) (h3 : starEach (c :: []) X.env = (false, eval c X.env) :: starEach [] X.env := by rfl) (hpl : (backTo pos (starEach [b, c] X.env)).any (·.1) = false := by rfl) :
    PI X tg (.Call (.Name "range" p) [a, b, c] [] pos) (wfD X.K X.mg W fun en => (fa en).bind fun x => (fb en).bind fun y => (fc en).bind fun z => rngDownD x y z) :=
  PI.imp (pi_range3 hg hm (pa_cons ha (pa_cons hb (pa_cons hc pa_nil h3) h2) h1) h1 hpl) fun σ H P ⟨H0, O0, own, env, E, h⟩ => by
  refine ⟨H0, O0, own, env, E, ?_⟩
  cases q : fa env with
  | no => simp only [q, R.bind_no] at h; exact h
  | ex k fs => simp only [q, R.bind_ex] at h; exact h
  | ok c =>
    simp only [q, R.bind_ok] at h
    intro v H1 os s1 fr nd r
    refine ⟨H0, O0, own, env, E.mono s1, ?_⟩
    cases q2 : fb env with
    | no => simp only [q2, R.bind_no] at h; exact h
    | ex k fs => simp only [q2, R.bind_ex] at h; exact fun H' cls d s' w => h H' cls d (s1.trans s') w
    | ok c2 =>
      simp only [q2, R.bind_ok] at h
      intro v2 H2 os2 s2 fr2 nd2 r2
      refine ⟨H0, O0, own, env, E.mono (s1.trans s2), ?_⟩
      cases q3 : fc env with
      | no => simp only [q3, R.bind_no] at h; exact h
      | ex k fs => simp only [q3, R.bind_ex] at h; exact fun H' cls d s' w => h H' cls d ((s1.trans s2).trans s') w
      | ok c3 =>
        simp only [q3, R.bind_ok] at h
        intro v3 H3 os3 s3 fr3 nd3 r3
        unfold rngDownD at h
        split at h
        · rename_i i j
          have e : v = .int i := Dp_int r.2
          have e2 : v2 = .int j := Dp_int r2.2
          have e3 : v3 = .int (-1) := Dp_int r3.2
          subst e e2 e3
          split at h
          · rename_i hb
            exact ⟨i, j, -1, _, rfl, RgC.neg hb.1 hb.2.1 hb.2.2.1 hb.2.2.2, h _ H3 ((s1.trans s2).trans s3) itF_c⟩
          · exact h.elim
        · exact h.elim
end
end DL
/-! ## DL, part 7: statements, loops, a def's body -/
namespace DL
open PySem PySem.Spec PyProof.Rows L2
theorem set_self {α : Type} : ∀ {l : List α} {i : Nat} {x : α}, l[i]? = some x → l.set i x = l
  | [], _, _, h => by simp at h
  | a :: l, 0, x, h => by
    simp at h
    rw [h]
    rfl
  | a :: l, i + 1, x, h => by
    show a :: l.set i x = a :: l
    rw [set_self (by simpa using h)]
/-! ### statements -/
def OutH (K : PySem.W.Frag) (mg : Str → Option Value) (W : WX) (H0 : Hp) (O0 : Addr → Prop) (H : Hp) (O : Addr → Prop) (D : Ends) (o : Out) : Prop :=
  match o with
  | .no => False
  | .nx e => ∀ σ' H' own', EnvOk K H0 H' O0 own' σ' e → Same (hide H O) (hide H' (tO O0 own')) → D.nx σ' H'
  | .bk e => ∀ σ' H' own', EnvOk K H0 H' O0 own' σ' e → Same (hide H O) (hide H' (tO O0 own')) → D.bk σ' H'
  | .ct e => ∀ σ' H' own', EnvOk K H0 H' O0 own' σ' e → Same (hide H O) (hide H' (tO O0 own')) → D.ct σ' H'
  | .rt c => ∀ v H' os, Same H0 H' → (∀ a ∈ os, H0 a = none) → os.Nodup → CellR K H' (fun a => O0 a ∨ a ∈ os) os c v → D.rt v H'
  | .ex k fs e => ∀ σ' H' own' cls d, EnvOk K H0 H' O0 own' σ' e → Same (hide H O) (hide H' (tO O0 own')) → ExcR K mg (hide H' (tO O0 own')) cls d k fs → W cls d σ' H'
theorem OutH.mono {K : PySem.W.Frag} {mg : Str → Option Value} {W : WX} {H0 : Hp} {O0 : Addr → Prop} {H H1 : Hp} {O O1 : Addr → Prop} {D : Ends} {o : Out} (s : Same (hide H O) (hide H1 O1)) (h : OutH K mg W H0 O0 H O D o) : OutH K mg W H0 O0 H1 O1 D o := by
  cases o with
  | no => exact h
  | nx e => exact fun σ' H' own' E q => h σ' H' own' E (s.trans q)
  | bk e => exact fun σ' H' own' E q => h σ' H' own' E (s.trans q)
  | ct e => exact fun σ' H' own' E q => h σ' H' own' E (s.trans q)
  | rt c => exact h
  | ex k fs e => exact fun σ' H' own' cls d E q => h σ' H' own' cls d E (s.trans q)
theorem same_h {H H1 : Hp} {O : Addr → Prop} (s : Same H H1) : Same (hide H O) (hide H1 O) := hide_same s fun _ _ _ z => z
def tsD (K : PySem.W.Frag) (mg : Str → Option Value) (W : WX) (g : Env → Out) : TS := fun D σ H => ∃ H0 O0 own env, EnvOk K H0 H O0 own σ env ∧ OutH K mg W H0 O0 H (tO O0 own) D (g env)
section
variable {X : Cx} {W : WX} {tg e l a b c : Expr} {fa fb fc : Env → R Cell} {fi : Env → R (List D)} {ta tb : Env → R Bool} {g g1 g2 : Env → Out} {pos p p' : Pos} {st : Stmt} {sts sts2 : List Stmt}
theorem ds_nil : PSs X [] (tsD X.K X.mg W fun en => .nx en) := PSs.imp pss_nil fun D σ H ⟨H0, O0, own, env, E, h⟩ => h σ H own E (Same.refl _)
/-- the way on behind a statement -/
theorem seq_ok {K : PySem.W.Frag} {mg : Str → Option Value} : ∀ D σ H, tsD K mg W (fun en => (g1 en).andThen g2) D σ H → tSeq (tsD K mg W g1) (tsD K mg W g2) D σ H := fun D σ H ⟨H0, O0, own, env, E, h⟩ => by
  refine ⟨H0, O0, own, env, E, ?_⟩
  cases q : g1 env with
  | no => simp only [q, Out.andThen_no] at h; exact h
  | rt c => simp only [q, Out.andThen_rt] at h; exact h
  | bk e => simp only [q, Out.andThen_bk] at h; exact h
  | ct e => simp only [q, Out.andThen_ct] at h; exact h
  | ex k fs e => simp only [q, Out.andThen_ex] at h; exact h
  | nx e =>
    simp only [q, Out.andThen_nx] at h
    exact fun σ' H' own' E' s => ⟨H0, O0, own', e, E', OutH.mono s h⟩
theorem ds_cons (h1 : PS X st (tsD X.K X.mg W g1)) (h2 : PSs X sts (tsD X.K X.mg W g2)) : PSs X (st :: sts) (tsD X.K X.mg W fun en => (g1 en).andThen g2) := PSs.imp (pss_cons h1 h2) seq_ok
theorem ds_one (h1 : PS X st (tsD X.K X.mg W g1)) : PSs X [st] (tsD X.K X.mg W g1) := pss_one h1
theorem ds_pass : PS X (.Pass pos) (tsD X.K X.mg W fun en => .nx en) := PS.imp ps_pass fun D σ H ⟨H0, O0, own, env, E, h⟩ => h σ H own E (Same.refl _)
theorem ds_break : PS X (.Break pos) (tsD X.K X.mg W fun en => .bk en) := PS.imp ps_break fun D σ H ⟨H0, O0, own, env, E, h⟩ => h σ H own E (Same.refl _)
theorem ds_continue : PS X (.Continue pos) (tsD X.K X.mg W fun en => .ct en) := PS.imp ps_continue fun D σ H ⟨H0, O0, own, env, E, h⟩ => h σ H own E (Same.refl _)
/-- an exception of an expression is the statement's -/
theorem into_ex {K : PySem.W.Frag} {mg : Str → Option Value} {H0 H : Hp} {O0 : Addr → Prop} {own : Nat → List Addr} {σ : L2.St} {env : Env} {D : Ends} {k : Str} {fs : List (Str × PyData)} (E : EnvOk K H0 H O0 own σ env) (h : OutH K mg W H0 O0 H (tO O0 own) D (.ex k fs env)) :
    ∀ H' cls d, Same H H' → ExcR K mg (hide H' (tO O0 own)) cls d k fs → W cls d σ H' := fun H' cls d s w => h σ H' own cls d (E.mono s) (same_h s) w
theorem ds_expr (ha : PE X a (teD X.K X.mg W fa)) (hs : swapsWith a none pos.line X.env = pure false := by rfl) : PS X (.Expr a pos) (tsD X.K X.mg W fun en => (fa en).into en fun _ => .nx en) := PS.imp (ps_expr ha hs) fun D σ H ⟨H0, O0, own, env, E, h⟩ => by
  refine ⟨H0, O0, own, env, E, ?_⟩
  cases q : fa env with
  | no => simp only [q, R.into_no] at h; exact h
  | ex k fs => simp only [q, R.into_ex] at h; exact into_ex E h
  | ok c =>
    simp only [q, R.into_ok] at h
    exact fun v H' os s _ _ r => h σ H' own (E.mono s) (same_h s)
theorem ds_ret (ha : PE X a (teD X.K X.mg W fa)) : PS X (.Return (some a) pos) (tsD X.K X.mg W fun en => (fa en).into en .rt) := PS.imp (ps_ret ha) fun D σ H ⟨H0, O0, own, env, E, h⟩ => by
  refine ⟨H0, O0, own, env, E, ?_⟩
  cases q : fa env with
  | no => simp only [q, R.into_no] at h; exact h
  | ex k fs => simp only [q, R.into_ex] at h; exact into_ex E h
  | ok c =>
    simp only [q, R.into_ok] at h
    intro v H' os s fr nd r
    refine h v H' os (E.same.trans s) (fun a ha => E.same.free (fr a ha)) nd (CellR_mono (Same.refl H') (fun a o _ z => ?_) r)
    rcases z with z | z
    · exact .inl (.inl z)
    · exact .inr z
/-- return x, x in slot i: what it owns is handed out -/
def outC (c : Cell) : Out := match c with
  | .un => .no
  | c => .rt c
theorem ds_retV (i : Nat) {x : Str} (hN : X.N[i]? = some x := by rfl) (hv : Vis X.env.scope x := by first | exact Or.inl rfl | exact Or.inr (Or.inl rfl) | exact Or.inr (Or.inr rfl)) (hd : (x == ("__debug__" : Str)) = false := by decide)
    (hcd : (x == ("__classdict__" : Str)) = false := by decide) : PS X (.Return (some (.Name x p)) pos) (tsD X.K X.mg W fun en => (getC i en).into en .rt) := PS.imp (ps_ret (pe_var hN hv hd hcd)) fun D σ H ⟨H0, O0, own, env, E, h⟩ => by
  unfold getC at h
  cases q : env[i]? with
  | none => simp only [q, R.into_no] at h; exact h.elim
  | some c =>
    obtain ⟨c', n, k, h'⟩ : ∃ c', c ≠ .un ∧ (∀ v, CellR X.K H (tO O0 own) (own i) c v → CellR X.K H (tO O0 own) (own i) c' v) ∧ OutH X.K X.mg W H0 O0 H (tO O0 own) D (.rt c') := by
      cases c with
      | un => simp only [q, R.into_no] at h; exact h.elim
      | exc _ _ _ _ => simp only [q, R.into_no] at h; exact h.elim
      | d x => simp only [q, R.into_ok] at h; exact ⟨.d x, (by intro z; cases z), fun _ e => e, h⟩
      | own xs => simp only [q, R.into_ok] at h; exact ⟨.own xs, (by intro z; cases z), fun _ e => e, h⟩
      | own2 xss => simp only [q, R.into_ok] at h; exact ⟨.own2 xss, (by intro z; cases z), fun _ e => e, h⟩
      | par a xs => simp only [q, R.into_ok] at h; exact ⟨.own xs, (by intro z; cases z), fun v ⟨vs, e1, e2, e3, e4⟩ => ⟨a, vs, e1, e2, e3, e4⟩, h⟩
    obtain ⟨v, e1, e2⟩ := E.get q n
    refine ⟨v, e1, h' v H (own i) E.same (fun a ha => E.fresh i a ha) (E.nd i) (CellR_mono (Same.refl H) (fun a o _ z => ?_) (k v e2))⟩
    rcases z with z | z
    · exact .inl z
    · exact .inr ⟨i, z⟩
theorem ds_retN : PS X (.Return none pos) (tsD X.K X.mg W fun en => .rt (.d .none)) := PS.imp ps_retN fun D σ H ⟨H0, O0, own, env, E, h⟩ => h .non H [] E.same (fun a ha => by cases ha) List.nodup_nil ⟨rfl, .non⟩
theorem ds_if (hc : PT X c (ttD X.K X.mg W ta)) (h1 : PSs X sts (tsD X.K X.mg W g1)) (h2 : PSs X sts2 (tsD X.K X.mg W g2)) : PS X (.If c sts sts2 pos) (tsD X.K X.mg W fun en => (ta en).into en fun b => if b = true then g1 en else g2 en) := PS.imp (ps_if hc h1 h2) fun D σ H ⟨H0, O0, own, env, E, h⟩ => by
  refine ⟨H0, O0, own, env, E, ?_⟩
  cases q : ta env with
  | no => simp only [q, R.into_no] at h; exact h
  | ex k fs => simp only [q, R.into_ex] at h; exact into_ex E h
  | ok b =>
    simp only [q, R.into_ok] at h
    intro H' s
    cases b with
    | true =>
      rw [if_pos rfl] at h ⊢
      exact ⟨H0, O0, own, env, E.mono s, OutH.mono (same_h s) h⟩
    | false =>
      rw [if_neg Bool.false_ne_true] at h ⊢
      exact ⟨H0, O0, own, env, E.mono s, OutH.mono (same_h s) h⟩
/-- the slot's own list is from now on data -/
theorem freeze_ok {K : PySem.W.Frag} {H0 H : Hp} {O0 : Addr → Prop} {own : Nat → List Addr} {σ : L2.St} {env : Env} (E : EnvOk K H0 H O0 own σ env) (i : Nat) : ∃ own', EnvOk K H0 H O0 own' σ (freeze i env) ∧ Same (hide H (tO O0 own)) (hide H (tO O0 own')) := by
  unfold freeze
  cases q : env[i]? with
  | none => exact ⟨own, E, Same.refl _⟩
  | some c =>
    dsimp only
    have hi : i < env.length := (List.getElem?_eq_some_iff.mp q).1
    by_cases n : c = .un ∨ (∃ x, c = .d x) ∨ (∃ a xs, c = .par a xs) ∨ ∃ a dd f x, c = .exc a dd f x
    · have e : env.set i (freezeC c) = env := by
        rcases n with rfl | ⟨x, rfl⟩ | ⟨a, xs, rfl⟩ | ⟨a, dd, f, x, rfl⟩
        · exact set_self q
        · exact set_self q
        · exact set_self q
        · exact set_self q
      rw [e]
      exact ⟨own, E, Same.refl _⟩
    · have n1 : c ≠ .un := fun z => n (.inl z)
      obtain ⟨v, e1, e2⟩ := E.get q n1
      have sub : ∀ a, tO O0 (ownSet own i []) a → tO O0 own a := fun a z => by
        rcases z with z | ⟨j, z⟩
        · exact .inl z
        · unfold ownSet at z
          by_cases hj : j = i
          · rw [if_pos hj] at z
            cases z
          · rw [if_neg hj] at z
            exact .inr ⟨j, z⟩
      have nown : ∀ a ∈ own i, ¬ tO O0 (ownSet own i []) a := fun a ha z => by
        rcases z with z | ⟨j, z⟩
        · obtain ⟨o, w⟩ := E.o0 a z
          rw [E.fresh i a ha] at w
          cases w
        · unfold ownSet at z
          by_cases hj : j = i
          · rw [if_pos hj] at z
            cases z
          · rw [if_neg hj] at z
            exact E.dj i j a (Ne.symm hj) ha z
      have sm : Same (hide H (tO O0 own)) (hide H (tO O0 (ownSet own i []))) := hide_same (Same.refl H) fun a o _ z => sub a z
      obtain ⟨x, hx, hd⟩ : ∃ x, freezeC c = .d x ∧ Dp K (hide H (tO O0 (ownSet own i []))) v x := by
        have r2 : CellR K H (fun a => tO O0 (ownSet own i []) a ∨ a ∈ own i) (own i) c v := CellR_mono (Same.refl H) (fun a o _ z => by
          rcases z with z | z
          · exact sub a z
          · exact .inr ⟨i, z⟩) e2
        cases c with
        | un => exact absurd rfl n1
        | d x => exact absurd (.inr (.inl ⟨x, rfl⟩)) n
        | par a xs => exact absurd (.inr (.inr (.inl ⟨a, xs, rfl⟩))) n
        | exc a dd f x => exact absurd (.inr (.inr (.inr ⟨a, dd, f, x, rfl⟩))) n
        | own xs => exact ⟨_, rfl, CellR_dat nown r2 rfl⟩
        | own2 xss => exact ⟨_, rfl, CellR_dat nown r2 rfl⟩
      refine ⟨ownSet own i [], ?_, sm⟩
      rw [hx]
      have w := E.set (c := .d x) (x := some v) (os := []) hi E.same (fun _ _ e _ => e) (fun _ _ _ _ _ e => e) (fun a ha => by cases ha) (fun a ha => by cases ha) (fun a ha => by cases ha) List.nodup_nil ⟨v, rfl, rfl, hd⟩
      have e3 : σ.set i (some v) = σ := set_self e1
      rw [e3] at w
      exact w
def freezeAll : List Nat → Env → Env
  | [], e => e
  | i :: is, e => freezeAll is (freeze i e)
theorem freezeAll_ok {K : PySem.W.Frag} {H0 H : Hp} {O0 : Addr → Prop} {σ : L2.St} : ∀ (is : List Nat) {own : Nat → List Addr} {env : Env}, EnvOk K H0 H O0 own σ env → ∃ own', EnvOk K H0 H O0 own' σ (freezeAll is env) ∧ Same (hide H (tO O0 own)) (hide H (tO O0 own'))
  | [], own, env, E => ⟨own, E, Same.refl _⟩
  | i :: is, own, env, E => by
    obtain ⟨own1, E1, s1⟩ := freeze_ok E i
    obtain ⟨own2, E2, s2⟩ := freezeAll_ok is E1
    exact ⟨own2, E2, s1.trans s2⟩
/-- ahead of a statement the slots is are frozen -/
theorem ds_frz (is : List Nat) (h : PS X st (tsD X.K X.mg W g)) : PS X st (tsD X.K X.mg W fun en => g (freezeAll is en)) := PS.imp h fun D σ H ⟨H0, O0, own, env, E, h⟩ => by
  obtain ⟨own', E', s⟩ := freezeAll_ok is E
  exact ⟨H0, O0, own', _, E', OutH.mono s h⟩
/-- x = e, x in slot i -/
theorem store_new {K : PySem.W.Frag} {H0 H H' : Hp} {O0 : Addr → Prop} {own : Nat → List Addr} {σ : L2.St} {env : Env} {i : Nat} {os : List Addr} {c : Cell} {v : V} (E : EnvOk K H0 H O0 own σ env) (hi : i < env.length) (s : Same H H') (fr : ∀ a ∈ os, H a = none) (nd : os.Nodup) (r : CellR K H' (fun a => tO O0 own a ∨ a ∈ os) os c v) :
    EnvOk K H0 H' O0 (ownSet own i os) (σ.set i (some v)) (env.set i c) ∧ Same (hide H (tO O0 own)) (hide H' (tO O0 (ownSet own i os))) := by
  have r' : CellR K H' (tO O0 (ownSet own i os)) os c v := CellR_mono (Same.refl H') (fun a o _ z => by
    rcases z with z | ⟨j, z⟩
    · exact .inl (.inl z)
    · unfold ownSet at z
      by_cases hj : j = i
      · rw [if_pos hj] at z
        exact .inr z
      · rw [if_neg hj] at z
        exact .inl (.inr ⟨j, z⟩)) r
  refine ⟨E.set (c := c) (x := some v) hi (E.same.trans s) (fun a o e _ => s a o e) (fun _ a o _ _ e => s a o e) (fun a ha => CellR_there r a ha) (fun a ha => E.same.free (fr a ha)) (fun a ha => .inl (fr a ha)) nd ?_, hide_set (fun a o e _ => s a o e) fun a ha => .inl (fr a ha)⟩
  cases c with
  | un => exact r.elim
  | d _ => exact ⟨v, rfl, r'⟩
  | own _ => exact ⟨v, rfl, r'⟩
  | own2 _ => exact ⟨v, rfl, r'⟩
  | par _ _ => exact ⟨v, rfl, r'⟩
  | exc _ _ _ _ => exact ⟨v, rfl, r'⟩
def setR (i : Nat) (en : Env) (c : Cell) : Out := if i < en.length then .nx (en.set i c) else .no
theorem ds_set {i : Nat} {x : Str} (hN : X.N.Nodup) (ha : PE X a (teD X.K X.mg W fa)) (hi : X.N[i]? = some x := by rfl) (hx : Loc X.env.scope x := by first | exact Or.inl rfl | exact Or.inr rfl) (hs : swapsWith a (some (.Name x p')) pos.line X.env = pure false := by rfl) (hf : X.fn x = true ∨ X.env.scope.names.lookup x = some .local := by first | exact .inl rfl | exact .inr rfl) :
    PS X (.Assign [.Name x p'] a pos) (tsD X.K X.mg W fun en => (fa en).into en (setR i en)) := PS.imp (ps_set hN hi hx ha hs hf) fun D σ H ⟨H0, O0, own, env, E, h⟩ => by
  refine ⟨H0, O0, own, env, E, ?_⟩
  cases q : fa env with
  | no => simp only [q, R.into_no] at h; exact h
  | ex k fs => simp only [q, R.into_ex] at h; exact into_ex E h
  | ok c =>
    simp only [q, R.into_ok] at h
    unfold setR at h
    intro v H' os s fr nd r
    split at h
    · rename_i hl
      obtain ⟨E', s'⟩ := store_new E hl s fr nd r
      exact h _ H' _ E' s'
    · exact h.elim
/-- a, b = e -/
def unpR (is : List Nat) (en : Env) (c : Cell) : Out := match c with
  | .d x => match (Tg.tp is).put x en with
    | some e' => .nx e'
    | none => .no
  | _ => .no
theorem ds_unp {is : List Nat} {es : List Expr} {k : Nat} {tp : Pos} (hg : PG X (.Tuple es k tp) ((Tg.tp is).tg X.K)) (ha : PE X a (teD X.K X.mg W fa)) (hs : swapsWithSole [.Tuple es k tp] a pos.line X.env = pure false := by rfl) (hw : swappedStores [.Tuple es k tp] a X.env = pure none := by rfl)
    (h1 : (assignEach [.Tuple es k tp] X.env).map (·.2) = [assign (.Tuple es k tp) X.env] := by rfl) : PS X (.Assign [.Tuple es k tp] a pos) (tsD X.K X.mg W fun en => (fa en).into en (unpR is en)) := PS.imp (ps_asg ha hg hs hw h1) fun D σ H ⟨H0, O0, own, env, E, h⟩ => by
  refine ⟨H0, O0, own, env, E, ?_⟩
  cases q : fa env with
  | no => simp only [q, R.into_no] at h; exact h
  | ex k fs => simp only [q, R.into_ex] at h; exact into_ex E h
  | ok c =>
    simp only [q, R.into_ok] at h
    unfold unpR at h
    intro v H' os s fr nd r
    split at h
    · rename_i x
      split at h
      · rename_i e' he
        have hd : Dp X.K (hide H' (tO O0 own)) v x := Dp_mono (hide_same (Same.refl H') fun _ _ _ z => .inl z) _ _ r.2
        exact tg_ok (Tg.tp is) (E.mono s) hd he fun σ' own' E' sub _ _ => h σ' H' own' E' ((same_h s).trans (hide_same (Same.refl H') fun a o _ z => sub a z))
      · exact h.elim
    · exact h.elim
/-! ### own lists are changed -/
/-- xs.append(e), xs in slot i -/
def ownAt (i : Nat) (en : Env) (f : List PyData → Out) : Out := match en[i]? with
  | some (.own xs) => f xs
  | _ => .no
def own2At (i : Nat) (en : Env) (f : List (List PyData) → Out) : Out := match en[i]? with
  | some (.own2 xs) => f xs
  | _ => .no
theorem own_upd {K : PySem.W.Frag} {H0 H : Hp} {O0 : Addr → Prop} {own : Nat → List Addr} {σ : L2.St} {env : Env} {i : Nat} {xs ys : List PyData} {al : Addr} {vs us : List V} (E : EnvOk K H0 H O0 own σ env) (q : env[i]? = some (.own xs)) (e1 : σ[i]? = some (some (.ref al))) (eo : own i = [al]) (e2 : H al = some (.lst vs))
    (r : DpAll K (hide H (tO O0 own)) us ys) : EnvOk K H0 (upd H al (.lst us)) O0 own σ (env.set i (.own ys)) ∧ Same (hide H (tO O0 own)) (hide (upd H al (.lst us)) (tO O0 own)) := by
  have hi : i < env.length := (List.getElem?_eq_some_iff.mp q).1
  have mem : al ∈ own i := by rw [eo]; exact List.mem_cons_self
  have s0 : ∀ a o, a ≠ al → H a = some o → upd H al (.lst us) a = some o := fun a o n e => by rw [upd_ne n]; exact e
  have h0 : Same H0 (upd H al (.lst us)) := fun a o e => s0 a o (fun z => by
    rw [z, E.fresh i al mem] at e
    cases e) (E.same a o e)
  have n1 : ∀ a o, H a = some o → ¬ tO O0 own a → upd H al (.lst us) a = some o := fun a o e n => s0 a o (fun z => n (by rw [z]; exact .inr ⟨i, mem⟩)) e
  have eqo : ownSet own i (own i) = own := by
    funext j
    unfold ownSet
    by_cases hj : j = i
    · rw [if_pos hj, hj]
    · rw [if_neg hj]
  have sm : Same (hide H (tO O0 own)) (hide (upd H al (.lst us)) (tO O0 own)) := fun a o e => by
    obtain ⟨n, e⟩ := hide_eq.mp e
    exact hide_eq.mpr ⟨n, n1 a o e n⟩
  have w := E.set (c := .own ys) (x := some (.ref al)) (os := own i) (H' := upd H al (.lst us)) hi h0 n1 (fun j a o hj ha e => s0 a o (fun z => E.dj i j al (Ne.symm hj) mem (by rw [← z]; exact ha)) e) (fun a ha => by
      rw [eo] at ha
      rw [List.mem_singleton.mp ha]
      exact ⟨_, upd_same⟩) (fun a ha => E.fresh i a ha) (fun a ha => .inr ha) (E.nd i) ⟨.ref al, rfl, al, us, rfl, eo, upd_same, by
        rw [eqo]
        exact DpAll_mono sm _ _ r⟩
  rw [eqo] at w
  have e3 : σ.set i (some (.ref al)) = σ := set_self e1
  rw [e3] at w
  exact ⟨w, sm⟩
/-- behind the reading of data: the slot's own list -/
theorem own_at {K : PySem.W.Frag} {H0 H : Hp} {O0 : Addr → Prop} {own : Nat → List Addr} {σ : L2.St} {env : Env} {i : Nat} {xs : List PyData} (E : EnvOk K H0 H O0 own σ env) (q : env[i]? = some (.own xs)) : ∃ al vs, σ[i]? = some (some (.ref al)) ∧ own i = [al] ∧ H al = some (.lst vs) ∧ DpAll K (hide H (tO O0 own)) vs xs := by
  obtain ⟨v, e1, al, vs, rfl, eo, e2, e3⟩ := E.get q (fun z => by cases z)
  exact ⟨al, vs, e1, eo, e2, e3⟩
theorem ownAt_some {K : PySem.W.Frag} {mg : Str → Option Value} {H0 H : Hp} {O0 O : Addr → Prop} {i : Nat} {en : Env} {f : List PyData → Out} {D : Ends} (h : OutH K mg W H0 O0 H O D (ownAt i en f)) : ∃ xs, en[i]? = some (.own xs) ∧ OutH K mg W H0 O0 H O D (f xs) := by
  unfold ownAt at h
  split at h
  · rename_i xs e
    exact ⟨xs, e, h⟩
  · exact h.elim
theorem own2At_some {K : PySem.W.Frag} {mg : Str → Option Value} {H0 H : Hp} {O0 O : Addr → Prop} {i : Nat} {en : Env} {f : List (List PyData) → Out} {D : Ends} (h : OutH K mg W H0 O0 H O D (own2At i en f)) : ∃ xs, en[i]? = some (.own2 xs) ∧ OutH K mg W H0 O0 H O D (f xs) := by
  unfold own2At at h
  split at h
  · rename_i xs e
    exact ⟨xs, e, h⟩
  · exact h.elim
/-- data in what nobody owns, behind an expression -/
theorem dat_at {K : PySem.W.Frag} {H0 H H' : Hp} {O0 : Addr → Prop} {own : Nat → List Addr} {σ : L2.St} {env : Env} {os : List Addr} {c : Cell} {v : V} {d : PyData} (E : EnvOk K H0 H O0 own σ env) (fr : ∀ a ∈ os, H a = none) (r : CellR K H' (fun a => tO O0 own a ∨ a ∈ os) os c v) (e : asD c = .ok d) : Dp K (hide H' (tO O0 own)) v d :=
  CellR_dat (fun a ha z => by
    obtain ⟨o, e⟩ := E.thereO a z
    rw [fr a ha] at e
    cases e) r e
/-- xs.append(e), xs in slot i -/
theorem ds_app (i : Nat) {x : Str} {np ap : Pos} (pe : PE X (.Call (.Attribute (.Name x np) "append" ap) [a] [] pos) (tBM X.K "list" rAppend (tVar i) (tCons (teD X.K X.mg W fa) tNil)))
    (hs : swapsWith (.Call (.Attribute (.Name x np) "append" ap) [a] [] pos) none p.line X.env = pure false := by rfl) :
    PS X (.Expr (.Call (.Attribute (.Name x np) "append" ap) [a] [] pos) p) (tsD X.K X.mg W fun en => ownAt i en fun xs => ((fa en).bind asD).into en fun d => if xs.length < 16777216 then .nx (en.set i (.own (xs ++ [d]))) else .no) := PS.imp (ps_expr pe hs) fun D σ H ⟨H0, O0, own, env, E, h⟩ => by
  obtain ⟨xs, q, h⟩ := ownAt_some h
  obtain ⟨al, vs, e1, eo, e2, e3⟩ := own_at E q
  refine ⟨.ref al, e1, .inl ⟨rfl, vs, SqL.of e2⟩, H0, O0, own, env, E, ?_⟩
  cases q2 : fa env with
  | no => simp only [q2, R.bind_no, R.into_no] at h; exact h
  | ex k fs => simp only [q2, R.bind_ex, R.into_ex] at h; exact into_ex E h
  | ok c =>
    simp only [q2, R.bind_ok] at h
    intro v H' os s fr nd r
    cases q3 : asD c with
    | no => simp only [q3, R.into_no] at h; exact h.elim
    | ex k fs => exact (asD_ex q3).elim
    | ok d =>
      simp only [q3, R.into_ok] at h
      split at h
      · rename_i hl
        have hd := dat_at E fr r q3
        obtain ⟨E', s'⟩ := own_upd (E.mono s) q e1 eo (s _ _ e2) (DpAll_append (DpAll_mono (same_h s) _ _ e3) (.cons hd .nil))
        exact ⟨al, vs, v, rfl, rfl, s _ _ e2, by rw [DpAll_len e3, sizeLine_eq]; exact hl, h _ _ own E' ((same_h s).trans s')⟩
      · exact h.elim
/-- xs[k] = e, xs in slot i -/
theorem ixN_of {n : Nat} {i : Int} {j : Nat} (h : ixN n i = some j) : j < n := (ixN_seq h).2.1
def setAt {α : Type} (xs : List α) (i : Int) (x : α) : Option (List α) := (ixN xs.length i).map fun j => xs.set j x
def cellI (c : Cell) : R Int := match c with
  | .d (.int i) => .ok i
  | _ => .no
theorem cellI_ok {K : PySem.W.Frag} {H : Hp} {O : Addr → Prop} {os : List Addr} {c : Cell} {v : V} {i : Int} (h : cellI c = .ok i) (r : CellR K H O os c v) : v = .int i := by
  unfold cellI at h
  split at h
  · cases h
    exact Dp_int r.2
  · cases h
theorem cellI_ex {c : Cell} {k : Str} {fs : List (Str × PyData)} (h : cellI c = .ex k fs) : False := by
  unfold cellI at h
  split at h <;> cases h
theorem ds_setI (i : Nat) {sp : Pos} {o : Expr} (pg : PG X (.Subscript o b sp) (gSub (tVar i) (teD X.K X.mg W fb) rSetL)) (ha : PE X a (teD X.K X.mg W fa)) (hs : swapsWithSole [.Subscript o b sp] a pos.line X.env = pure false := by rfl) (hw : swappedStores [.Subscript o b sp] a X.env = pure none := by rfl)
    (h1 : (assignEach [.Subscript o b sp] X.env).map (·.2) = [assign (.Subscript o b sp) X.env] := by rfl) :
    PS X (.Assign [.Subscript o b sp] a pos) (tsD X.K X.mg W fun en => ((fa en).bind asD).into en fun d => ownAt i en fun xs => ((fb en).bind cellI).into en fun k => match setAt xs k d with | some ys => .nx (en.set i (.own ys)) | none => .no) :=
  PS.imp (ps_asg ha pg hs hw h1) fun D σ H ⟨H0, O0, own, env, E, h⟩ => by
  refine ⟨H0, O0, own, env, E, ?_⟩
  cases q : fa env with
  | no => simp only [q, R.bind_no, R.into_no] at h; exact h
  | ex k fs => simp only [q, R.bind_ex, R.into_ex] at h; exact into_ex E h
  | ok c =>
    simp only [q, R.bind_ok] at h
    intro v H' os s fr nd r
    cases q3 : asD c with
    | no => simp only [q3, R.into_no] at h; exact h.elim
    | ex k fs => exact (asD_ex q3).elim
    | ok d =>
      simp only [q3, R.into_ok] at h
      have hd := dat_at E fr r q3
      obtain ⟨xs, q4, h⟩ := ownAt_some h
      obtain ⟨al, vs, e1, eo, e2, e3⟩ := own_at E q4
      refine ⟨.ref al, e1, H0, O0, own, env, E.mono s, ?_⟩
      cases q2 : fb env with
      | no => simp only [q2, R.bind_no, R.into_no] at h; exact h
      | ex k fs => simp only [q2, R.bind_ex, R.into_ex] at h; exact into_ex (E.mono s) (OutH.mono (same_h s) h)
      | ok c2 =>
        simp only [q2, R.bind_ok] at h
        intro u H2 os2 s2 fr2 nd2 r2
        cases q5 : cellI c2 with
        | no => simp only [q5, R.into_no] at h; exact h.elim
        | ex k fs => exact (cellI_ex q5).elim
        | ok k =>
          simp only [q5, R.into_ok] at h
          have eu := cellI_ok q5 r2
          subst eu
          unfold setAt at h
          cases q6 : ixN xs.length k with
          | none =>
            rw [q6] at h
            exact h.elim
          | some j =>
            rw [q6] at h
            have h : OutH X.K X.mg W H0 O0 H (tO O0 own) D (.nx (env.set i (.own (xs.set j d)))) := h
            have ss := s.trans s2
            obtain ⟨E', s'⟩ := own_upd (E.mono ss) q4 e1 eo (ss _ _ e2) (DpAll_set (Dp_mono (same_h s2) _ _ hd) j (DpAll_mono (same_h ss) _ _ e3))
            exact ⟨al, vs, k, j, rfl, rfl, ss _ _ e2, by rw [DpAll_len e3]; exact q6, h _ _ own E' ((same_h ss).trans s')⟩
/-- x += e -/
theorem ds_aug (i : Nat) {x : Str} {op : Operator} {f : Int → Int → Int} (hN : X.N.Nodup) (ha : PE X a (teD X.K X.mg W fa)) (ho : PIp X op (ipI f)) (hi : X.N[i]? = some x := by rfl) (hx : Loc X.env.scope x := by first | exact Or.inl rfl | exact Or.inr rfl) (hf : X.fn x = true ∨ X.env.scope.names.lookup x = some .local := by first | exact .inl rfl | exact .inr rfl) :
    PS X (.AugAssign (.Name x p') op a pos) (tsD X.K X.mg W fun en => ((getC i en).bind cellI).into en fun k => ((fa en).bind cellI).into en fun z => .nx (en.set i (.d (.int (f k z))))) := PS.imp (ps_aug hN hi hx ha ho hf) fun D σ H ⟨H0, O0, own, env, E, h⟩ => by
  have hx : ∃ k, env[i]? = some (.d (.int k)) ∧ OutH X.K X.mg W H0 O0 H (tO O0 own) D (((fa env).bind cellI).into env fun z => .nx (env.set i (.d (.int (f k z))))) := by
    unfold getC at h
    cases q : env[i]? with
    | none => simp only [q, R.bind_no, R.into_no] at h; exact h.elim
    | some c =>
      cases c with
      | un => simp only [q, R.bind_no, R.into_no] at h; exact h.elim
      | own _ => simp only [q, R.bind_ok, cellI, R.into_no] at h; exact h.elim
      | own2 _ => simp only [q, R.bind_ok, cellI, R.into_no] at h; exact h.elim
      | par _ _ => simp only [q, R.bind_ok, cellI, R.into_no] at h; exact h.elim
      | exc _ _ _ _ => simp only [q, R.bind_ok, cellI, R.into_no] at h; exact h.elim
      | d y =>
        cases y with
        | int k =>
          simp only [q, R.bind_ok, cellI, R.into_ok] at h
          exact ⟨k, rfl, h⟩
        | _ => simp only [q, R.bind_ok, cellI, R.into_no] at h; exact h.elim
  obtain ⟨k, q, h⟩ := hx
  obtain ⟨v, e1, e2⟩ := E.get q (fun z => by cases z)
  have ev : v = .int k := Dp_int e2.2
  subst ev
  refine ⟨.int k, e1, H0, O0, own, env, E, ?_⟩
  cases q2 : fa env with
  | no => simp only [q2, R.bind_no, R.into_no] at h; exact h
  | ex k fs => simp only [q2, R.bind_ex, R.into_ex] at h; exact into_ex E h
  | ok c =>
    simp only [q2, R.bind_ok] at h
    intro u H' os s fr nd r
    cases q3 : cellI c with
    | no => simp only [q3, R.into_no] at h; exact h.elim
    | ex k fs => exact (cellI_ex q3).elim
    | ok z =>
      simp only [q3, R.into_ok] at h
      have eu := cellI_ok q3 r
      subst eu
      obtain ⟨own', E', sub, _⟩ := (E.mono s).put i (x := .int (f k z)) (v := .int (f k z)) (.int _)
      exact ⟨k, z, rfl, rfl, h _ H' own' E' ((same_h s).trans (hide_same (Same.refl H') fun a o _ w => sub a w))⟩
/-! ### loops -/
theorem ds_for {T : Tg} (hp : PassesOwn (model X.prog X.w) X.A X.env X.xe) (hc : X.calm = true) (hi : PI X tg l (wfD X.K X.mg W fi)) (hg : PG X tg (T.tg X.K)) (hb : PSs X sts (tsD X.K X.mg W g)) (hs : ∀ x, foldedSetIterable l X.env x = pure x := by intro _; rfl) :
    PS X (.For tg l sts [] pos) (tsD X.K X.mg W fun en => (fi en).into en fun xs => forD (turnD T g) xs en) := PS.imp (ps_for hp hc hi hg hb hs) fun D σ H ⟨H0, O0, own, env, E, h⟩ => by
  refine ⟨H0, O0, own, env, E, ?_⟩
  cases q : fi env with
  | no => simp only [q, R.into_no] at h; exact h
  | ex k fs => simp only [q, R.into_ex] at h; exact into_ex E h
  | ok xs =>
    simp only [q, R.into_ok] at h
    intro J H1 s it
    refine ⟨fun i m σ2 H2 => m = xs.length - i ∧ i ≤ xs.length ∧ ∃ own2 env2, EnvOk X.K H0 H2 O0 own2 σ2 env2 ∧ Same (hide H1 (tO O0 own)) (hide H2 (tO O0 own2)) ∧ OutH X.K X.mg W H0 O0 H2 (tO O0 own2) D (forD (turnD T g) (xs.drop i) env2),
      ⟨xs.length, by simp, Nat.zero_le _, own, env, E.mono s, Same.refl _, OutH.mono (same_h s) h⟩, ?_⟩
    rintro i m σ2 H2 ⟨rfl, hi, own2, env2, E2, s2, h2⟩
    obtain ⟨i1, i2⟩ := it i H2 _ s2
    by_cases hlt : i < xs.length
    · obtain ⟨x, hx⟩ : ∃ x, xs[i]? = some x := ⟨_, List.getElem?_eq_getElem hlt⟩
      obtain ⟨j1, j2⟩ := i1 x hx
      have ed : xs.drop i = x :: xs.drop (i + 1) := by
        rw [List.drop_eq_getElem_cons hlt]
        rw [List.getElem?_eq_getElem hlt] at hx
        rw [Option.some.inj hx]
      rw [ed] at h2
      have h3 : OutH X.K X.mg W H0 O0 H2 (tO O0 own2) D (match turnD T g x env2 with
        | .nx e' => forD (turnD T g) (xs.drop (i + 1)) e'
        | .ct e' => forD (turnD T g) (xs.drop (i + 1)) e'
        | .bk e' => .nx e'
        | o => o) := h2
      refine .inr ⟨j1, fun σ' H' => ∃ own', ∃ env', EnvOk X.K H0 H' O0 own' σ' env' ∧ Same (hide H1 (tO O0 own)) (hide H' (tO O0 own')) ∧ OutH X.K X.mg W H0 O0 H' (tO O0 own') D (forD (turnD T g) (xs.drop (i + 1)) env'), fun σ' H' hN => ⟨xs.length - (i + 1), by omega, rfl, hlt, hN⟩, fun v H' y => ?_⟩
      obtain ⟨rfl, hv⟩ := j2 v H' y
      have hv2 : Dp X.K (hide H' (tO O0 own2)) v x := Dp_mono s2 _ _ hv
      unfold turnD at h3
      cases q5 : T.put x env2 with
      | none =>
        simp only [q5] at h3
        exact h3.elim
      | some e' =>
        simp only [q5] at h3
        refine tg_ok T E2 hv2 q5 fun σ3 own3 E3 sub3 _ _ => ⟨H0, O0, own3, e', E3, ?_⟩
        have s3 : Same (hide H' (tO O0 own2)) (hide H' (tO O0 own3)) := hide_same (Same.refl H') fun a o _ z => sub3 a z
        cases q6 : g e' with
        | no => simp only [q6] at h3; exact h3
        | rt c => simp only [q6] at h3; exact h3
        | bk e2 => simp only [q6] at h3; exact OutH.mono s3 h3
        | ex k fs e2 => simp only [q6] at h3; exact OutH.mono s3 h3
        | nx e2 =>
          simp only [q6] at h3
          exact fun σ4 H4 own4 E4 s4 => ⟨own4, e2, E4, (s2.trans s3).trans s4, OutH.mono (s3.trans s4) h3⟩
        | ct e2 =>
          simp only [q6] at h3
          exact fun σ4 H4 own4 E4 s4 => ⟨own4, e2, E4, (s2.trans s3).trans s4, OutH.mono (s3.trans s4) h3⟩
    · have e : i = xs.length := by omega
      subst e
      rw [List.drop_length] at h2
      exact .inl ⟨i2 (Nat.le_refl _), h2 σ2 H2 own2 E2 (Same.refl _)⟩
theorem ds_while (fuel : Nat) (hp : PassesOwn (model X.prog X.w) X.A X.env X.xe) (hc : PT X c (ttD X.K X.mg W ta)) (hb : PSs X sts (tsD X.K X.mg W g)) : PS X (.While c sts [] pos) (tsD X.K X.mg W fun en => whileD ta g fuel en) := PS.imp (ps_while hp hc hb) fun D σ H ⟨H0, O0, own, env, E, h⟩ => by
  refine ⟨fun m σ2 H2 => ∃ own2, ∃ env2, EnvOk X.K H0 H2 O0 own2 σ2 env2 ∧ OutH X.K X.mg W H0 O0 H2 (tO O0 own2) D (whileD ta g m env2), ⟨fuel, own, env, E, h⟩, ?_⟩
  rintro m σ2 H2 ⟨own2, env2, E2, h2⟩
  refine ⟨H0, O0, own2, env2, E2, ?_⟩
  cases m with
  | zero => exact h2.elim
  | succ m =>
    unfold whileD at h2
    cases q : ta env2 with
    | no => simp only [q, R.into_no] at h2; exact h2
    | ex k fs => simp only [q, R.into_ex] at h2; exact into_ex E2 h2
    | ok b =>
      simp only [q, R.into_ok] at h2
      intro H3 s3
      cases b with
      | false =>
        rw [if_neg Bool.false_ne_true] at h2 ⊢
        exact h2 σ2 H3 own2 (E2.mono s3) (same_h s3)
      | true =>
        rw [if_pos rfl] at h2 ⊢
        refine ⟨fun σ' H' => ∃ own', ∃ env', EnvOk X.K H0 H' O0 own' σ' env' ∧ OutH X.K X.mg W H0 O0 H' (tO O0 own') D (whileD ta g m env'), fun σ' H' hN => ⟨m, Nat.lt_succ_self m, hN⟩, H0, O0, own2, env2, E2.mono s3, ?_⟩
        have sh := same_h (O := tO O0 own2) s3
        cases q6 : g env2 with
        | no => simp only [q6] at h2; exact h2
        | rt c => simp only [q6] at h2; exact h2
        | bk e2 => simp only [q6] at h2; exact OutH.mono sh h2
        | ex k fs e2 => simp only [q6] at h2; exact OutH.mono sh h2
        | nx e2 =>
          simp only [q6] at h2
          exact fun σ4 H4 own4 E4 s4 => ⟨own4, e2, E4, OutH.mono (sh.trans s4) h2⟩
        | ct e2 =>
          simp only [q6] at h2
          exact fun σ4 H4 own4 E4 s4 => ⟨own4, e2, E4, OutH.mono (sh.trans s4) h2⟩
end
end DL
/-! ## DL, part 8: comprehensions, tables, reversed, a def's body -/
namespace DL
open PySem PySem.Spec PyProof.Rows L2
section
variable {X : Cx} {W : WX} {tg e l a b c elt : Expr} {fa fb fc fe : Env → R Cell} {fi : Env → R (List D)} {ta tb : Env → R Bool} {g g1 g2 : Env → Out} {pos p p' : Pos} {st : Stmt} {sts sts2 : List Stmt}
/-- reversed(range(a)) -/
theorem df_rev1 {q q' : Pos} (hm : X.mg "reversed" = none) (hm2 : X.mg "range" = none) (ha : PE X a (teD X.K X.mg W fa)) (hg : Gl X "reversed" := by rfl) (hg2 : Gl X "range" := by rfl) (na : starEach [a] X.env = (false, eval a X.env) :: starEach [] X.env := by rfl)
    (hs : starEach [.Call (.Name "range" q) [a] [] q'] X.env = (false, eval (.Call (.Name "range" q) [a] [] q') X.env) :: starEach [] X.env := by rfl) : PI X tg (.Call (.Name "reversed" p) [.Call (.Name "range" q) [a] [] q'] [] pos) (wfD X.K X.mg W fun en => (fa en).bind rngRevD) :=
  PI.imp (pi_revR hg hm (prg_1 hg2 hm2 ha na) hs) fun σ H P ⟨H0, O0, own, env, E, h⟩ => by
  refine ⟨H0, O0, own, env, E, ?_⟩
  cases q : fa env with
  | no => simp only [q, R.bind_no] at h; exact h
  | ex k fs => simp only [q, R.bind_ex] at h; exact h
  | ok c =>
    simp only [q, R.bind_ok] at h
    intro v H1 os s1 fr nd r
    unfold rngRevD at h
    split at h
    · rename_i j
      have e : v = .int j := Dp_int r.2
      subst e
      split at h
      · rename_i hb
        refine ⟨j, rfl, by decide, by decide, hb.1, hb.2, h _ H1 s1 itF_c⟩
      · exact h.elim
    · exact h.elim
/-! ### comprehensions -/
theorem wipe_get {σ : L2.St} {i : Nat} : ∀ {vs : List Nat}, (wipe σ vs)[i]? = if i ∈ vs then (if i < σ.length then some none else none) else σ[i]?
  | [] => by simp [wipe]
  | v :: vs => by
    unfold wipe
    by_cases hv : i = v
    · subst hv
      by_cases hl : i < σ.length
      · rw [List.getElem?_set_self (by rw [wipe_length]; exact hl)]
        simp [hl]
      · rw [List.getElem?_eq_none (by rw [List.length_set, wipe_length]; omega)]
        simp [hl]
    · rw [List.getElem?_set_ne (Ne.symm hv), wipe_get]
      simp [hv]
theorem wipe_twice {σ : L2.St} {vs : List Nat} : wipe (wipe σ vs) vs = wipe σ vs := by
  refine List.ext_getElem? fun i => ?_
  rw [wipe_get, wipe_get, wipe_length]
  by_cases h : i ∈ vs
  · simp [h]
  · simp [h]
def ownMove (own : Nat → List Addr) (i n : Nat) : Nat → List Addr := fun j => if j = n then own n ++ own i else if j = i then [] else own j
theorem tO_move {O0 : Addr → Prop} {own : Nat → List Addr} {i n : Nat} {a : Addr} : tO O0 (ownMove own i n) a ↔ tO O0 own a := by
  unfold tO ownMove
  constructor
  · rintro (h | ⟨j, h⟩)
    · exact .inl h
    · by_cases hj : j = n
      · rw [if_pos hj] at h
        rcases List.mem_append.mp h with h | h
        · exact .inr ⟨n, h⟩
        · exact .inr ⟨i, h⟩
      · rw [if_neg hj] at h
        by_cases hi : j = i
        · rw [if_pos hi] at h
          cases h
        · rw [if_neg hi] at h
          exact .inr ⟨j, h⟩
  · rintro (h | ⟨j, h⟩)
    · exact .inl h
    · by_cases hj : j = n
      · exact .inr ⟨n, by rw [if_pos rfl, ← hj]; exact List.mem_append_left _ h⟩
      · by_cases hi : j = i
        · exact .inr ⟨n, by rw [if_pos rfl, ← hi]; exact List.mem_append_right _ h⟩
        · exact .inr ⟨j, by rw [if_neg hj, if_neg hi]; exact h⟩
/-- the slots vs forgotten: what they own is kept aside -/
theorem wipe_ok {K : PySem.W.Frag} {H0 H : Hp} {O0 : Addr → Prop} {own : Nat → List Addr} {σ : L2.St} {env : Env} (E : EnvOk K H0 H O0 own σ env) : ∀ vs : List Nat, ∃ own', EnvOk K H0 H O0 own' (wipe σ vs) (wipeC env vs) ∧ (∀ a, tO O0 own' a ↔ tO O0 own a) ∧ (wipeC env vs).length = env.length ∧ ∀ i ∈ vs, i < env.length → own' i = []
  | [] => ⟨own, E, fun _ => Iff.rfl, rfl, fun i h => (by cases h)⟩
  | i :: vs => by
    obtain ⟨own', E', eo, el, em⟩ := wipe_ok E vs
    by_cases hi : i < env.length
    · have hn : i ≠ env.length := Nat.ne_of_lt hi
      have hd : Same (hide H (tO O0 own')) (hide H (tO O0 (ownMove own' i env.length))) := hide_same (Same.refl H) fun a o _ z => tO_move.mp z
      refine ⟨ownMove own' i env.length, ⟨E'.same, by unfold wipe wipeC; rw [List.length_set, List.length_set]; exact E'.len, fun j c e => ?_, fun j a h => ?_, fun j => ?_, fun j k a hjk h1 h2 => ?_, fun j a h => ?_, E'.o0⟩, fun a => tO_move.trans (eo a), by unfold wipeC; rw [List.length_set]; exact el, fun j hj hl => ?_⟩
      · unfold wipeC at e
        unfold wipe
        by_cases hj : j = i
        · subst hj
          rw [List.getElem?_set_self (by rw [el]; exact hi)] at e
          cases e
          exact trivial
        · rw [List.getElem?_set_ne (Ne.symm hj)] at e ⊢
          have hjn : j ≠ env.length := fun z => by
            rw [z, List.getElem?_eq_none (by rw [el]; exact Nat.le_refl _)] at e
            cases e
          have e2 : ownMove own' i env.length j = own' j := by
            unfold ownMove
            rw [if_neg hjn, if_neg hj]
          rw [e2]
          exact SlotR_mono (Same.refl H) (fun a o _ z => tO_move.mp z) (E'.cell j c e)
      · unfold ownMove at h
        by_cases hj : j = env.length
        · rw [if_pos hj] at h
          rcases List.mem_append.mp h with h | h
          · exact E'.th _ a h
          · exact E'.th _ a h
        · rw [if_neg hj] at h
          by_cases hji : j = i
          · rw [if_pos hji] at h
            cases h
          · rw [if_neg hji] at h
            exact E'.th j a h
      · unfold ownMove
        by_cases hj : j = env.length
        · rw [if_pos hj]
          exact List.nodup_append.mpr ⟨E'.nd _, E'.nd _, fun a h1 b h2 z => E'.dj _ i a (Ne.symm hn) h1 (by rw [z]; exact h2)⟩
        · rw [if_neg hj]
          by_cases hji : j = i
          · rw [if_pos hji]
            exact List.nodup_nil
          · rw [if_neg hji]
            exact E'.nd j
      · unfold ownMove at h1 h2
        by_cases hj : j = env.length
        · have hk : k ≠ env.length := fun z => hjk (hj.trans z.symm)
          rw [if_pos hj] at h1
          rw [if_neg hk] at h2
          by_cases hki : k = i
          · rw [if_pos hki] at h2
            cases h2
          · rw [if_neg hki] at h2
            rcases List.mem_append.mp h1 with h1 | h1
            · exact E'.dj _ k a (Ne.symm hk) h1 h2
            · exact E'.dj i k a (Ne.symm hki) h1 h2
        · rw [if_neg hj] at h1
          by_cases hji : j = i
          · rw [if_pos hji] at h1
            cases h1
          · rw [if_neg hji] at h1
            by_cases hk : k = env.length
            · rw [if_pos hk] at h2
              rcases List.mem_append.mp h2 with h2 | h2
              · exact E'.dj j _ a hj h1 h2
              · exact E'.dj j i a hji h1 h2
            · rw [if_neg hk] at h2
              by_cases hki : k = i
              · rw [if_pos hki] at h2
                cases h2
              · rw [if_neg hki] at h2
                exact E'.dj j k a hjk h1 h2
      · unfold ownMove at h
        by_cases hj : j = env.length
        · rw [if_pos hj] at h
          rcases List.mem_append.mp h with h | h
          · exact E'.fresh _ a h
          · exact E'.fresh _ a h
        · rw [if_neg hj] at h
          by_cases hji : j = i
          · rw [if_pos hji] at h
            cases h
          · rw [if_neg hji] at h
            exact E'.fresh j a h
      · unfold ownMove
        rw [if_neg (Nat.ne_of_lt hl)]
        by_cases hji : j = i
        · rw [if_pos hji]
        · rw [if_neg hji]
          rcases List.mem_cons.mp hj with z | z
          · exact absurd z hji
          · exact em j z hl
    · refine ⟨own', ?_, eo, by unfold wipeC; rw [List.length_set]; exact el, fun j hj hl => ?_⟩
      · unfold wipe wipeC
        rw [List.set_eq_of_length_le (by rw [E'.len, el]; omega), List.set_eq_of_length_le (by rw [el]; omega)]
        exact E'
      · rcases List.mem_cons.mp hj with z | z
        · exact absurd (by rw [← z]; exact hl) hi
        · exact em j z hl
/-- objects that belong to the block -/
def ownX (own : Nat → List Addr) (n : Nat) (os : List Addr) : Nat → List Addr := fun j => if j = n then own n ++ os else own j
theorem tO_X {O0 : Addr → Prop} {own : Nat → List Addr} {n : Nat} {os : List Addr} {a : Addr} : tO O0 (ownX own n os) a ↔ tO O0 own a ∨ a ∈ os := by
  unfold tO ownX
  constructor
  · rintro (h | ⟨j, h⟩)
    · exact .inl (.inl h)
    · by_cases hj : j = n
      · rw [if_pos hj] at h
        rcases List.mem_append.mp h with h | h
        · exact .inl (.inr ⟨n, h⟩)
        · exact .inr h
      · rw [if_neg hj] at h
        exact .inl (.inr ⟨j, h⟩)
  · rintro ((h | ⟨j, h⟩) | h)
    · exact .inl h
    · refine .inr ⟨j, ?_⟩
      by_cases hj : j = n
      · rw [if_pos hj, ← hj]
        exact List.mem_append_left _ h
      · rw [if_neg hj]
        exact h
    · exact .inr ⟨n, by rw [if_pos rfl]; exact List.mem_append_right _ h⟩
theorem hide_X {H : Hp} {O0 : Addr → Prop} {own : Nat → List Addr} {n : Nat} {os : List Addr} : hide H (tO O0 (ownX own n os)) = hide H (fun a => tO O0 own a ∨ a ∈ os) := by
  have e : tO O0 (ownX own n os) = fun a => tO O0 own a ∨ a ∈ os := by
    funext a
    exact propext tO_X
  rw [e]
theorem block_ok {K : PySem.W.Frag} {H0 H H1 : Hp} {O0 : Addr → Prop} {own : Nat → List Addr} {σ : L2.St} {env : Env} {os : List Addr} (E : EnvOk K H0 H O0 own σ env) (s : Same H H1) (fr : ∀ a ∈ os, H a = none) (th : ∀ a ∈ os, ∃ o, H1 a = some o) (nd : os.Nodup) : EnvOk K H0 H1 O0 (ownX own env.length os) σ env := by
  have E1 := E.mono s
  have dis : ∀ j a, a ∈ own j → a ∉ os := fun j a h z => by
    obtain ⟨o, e⟩ := E.th j a h
    rw [fr a z] at e
    cases e
  have sm : Same (hide H (tO O0 own)) (hide H1 (tO O0 (ownX own env.length os))) := fun a o e => by
    obtain ⟨n, e⟩ := hide_eq.mp e
    refine hide_eq.mpr ⟨fun z => ?_, s _ _ e⟩
    rcases tO_X.mp z with z | z
    · exact n z
    · rw [fr a z] at e
      cases e
  refine ⟨E1.same, E1.len, fun i c e => ?_, fun i a h => ?_, fun i => ?_, fun i j a hij h1 h2 => ?_, fun i a h => ?_, E.o0⟩
  · have hi : i ≠ env.length := fun z => by
      rw [z, List.getElem?_eq_none (Nat.le_refl _)] at e
      cases e
    have eo : ownX own env.length os i = own i := if_neg hi
    rw [eo]
    exact SlotR_mono s (fun a o q z => by
      rcases tO_X.mp z with z | z
      · exact z
      · rw [fr a z] at q
        cases q) (E.cell i c e)
  · unfold ownX at h
    by_cases hi : i = env.length
    · rw [if_pos hi] at h
      rcases List.mem_append.mp h with h | h
      · exact E1.th _ _ h
      · exact th a h
    · rw [if_neg hi] at h
      exact E1.th i a h
  · unfold ownX
    by_cases hi : i = env.length
    · rw [if_pos hi]
      exact List.nodup_append.mpr ⟨E.nd _, nd, fun a h1 b h2 z => dis _ a h1 (by rw [z]; exact h2)⟩
    · rw [if_neg hi]
      exact E.nd i
  · unfold ownX at h1 h2
    by_cases hi : i = env.length
    · have hj : j ≠ env.length := fun z => hij (hi.trans z.symm)
      rw [if_pos hi] at h1
      rw [if_neg hj] at h2
      rcases List.mem_append.mp h1 with h1 | h1
      · exact E.dj _ j a (Ne.symm hj) h1 h2
      · exact dis j a h2 h1
    · rw [if_neg hi] at h1
      by_cases hj : j = env.length
      · rw [if_pos hj] at h2
        rcases List.mem_append.mp h2 with h2 | h2
        · exact E.dj i _ a hi h1 h2
        · exact dis i a h1 h2
      · rw [if_neg hj] at h2
        exact E.dj i j a hij h1 h2
  · unfold ownX at h
    by_cases hi : i = env.length
    · rw [if_pos hi] at h
      rcases List.mem_append.mp h with h | h
      · exact E.fresh _ a h
      · exact E.same.free (fr a h)
    · rw [if_neg hi] at h
      exact E.fresh i a h
theorem mapR_ok {α β : Type} {f : α → R β} {x : α} {xs : List α} {zs : List β} (h : mapR f (x :: xs) = .ok zs) : ∃ y ys, f x = .ok y ∧ mapR f xs = .ok ys ∧ zs = y :: ys := by
  unfold mapR at h
  cases q : f x with
  | no => rw [q] at h; cases h
  | ex k fs => rw [q] at h; cases h
  | ok y =>
    rw [q] at h
    cases q2 : mapR f xs with
    | no => rw [q2] at h; cases h
    | ex k fs => rw [q2] at h; cases h
    | ok ys =>
      rw [q2] at h
      cases h
      exact ⟨y, ys, rfl, rfl, rfl⟩
theorem mapIf_ok {α β : Type} {t : α → R Bool} {f : α → R β} {x : α} {xs : List α} {zs : List β} (h : mapIf t f (x :: xs) = .ok zs) : (t x = .ok false ∧ mapIf t f xs = .ok zs) ∨ ∃ y ys, t x = .ok true ∧ f x = .ok y ∧ mapIf t f xs = .ok ys ∧ zs = y :: ys := by
  unfold mapIf at h
  cases q : t x with
  | no => rw [q] at h; cases h
  | ex k fs => rw [q] at h; cases h
  | ok b =>
    rw [q] at h
    cases b with
    | false => exact .inl ⟨rfl, h⟩
    | true =>
      simp only [R.bind_ok, if_true] at h
      cases q1 : f x with
      | no => rw [q1] at h; cases h
      | ex k fs => rw [q1] at h; cases h
      | ok y =>
        rw [q1] at h
        cases q2 : mapIf t f xs with
        | no => simp only [R.bind_ok, q2, R.bind_no] at h; cases h
        | ex k fs => simp only [R.bind_ok, q2, R.bind_ex] at h; cases h
        | ok ys =>
          simp only [R.bind_ok, q2] at h
          cases h
          exact .inr ⟨y, ys, rfl, rfl, rfl, rfl⟩
/-- no exception leaves a comprehension's block -/
abbrev W0 : WX := fun _ _ _ _ => False
/-- the tests of a comprehension -/
theorem dts_nil : PTs X [] (ttD X.K X.mg W fun _ => .ok true) := ⟨fun pins s σ H Q I ⟨H0, O0, own, env, E, h⟩ => pts_nil.run pins s σ H Q I (h H (Same.refl H))⟩
theorem dts_one (h : PT X c (ttD X.K X.mg W ta)) : PTs X [c] (ttD X.K X.mg W ta) := pts_one h
/-- [elt for tg in l if ..], a list of data -/
theorem lc_dat {K : PySem.W.Frag} {mg : Str → Option Value} {vs : List Nat} {T : Tg} (hT : ∀ i ∈ T.slots, i ∈ vs) : ∀ σ H Q, teD K mg W (fun en => (fi en).bind fun xs => lcL (lcD vs T ta fe xs en)) σ H Q → tLc (wcD K mg W fi) (T.tg K) (ttD K mg W0 ta) (teD K mg W0 fe) vs σ H Q := fun σ H Q ⟨H0, O0, own, env, E, h⟩ => by
  refine ⟨H0, O0, own, env, E, ?_⟩
  cases q : fi env with
  | no => simp only [q, R.bind_no] at h; exact h
  | ex k fs => simp only [q, R.bind_ex] at h; exact h
  | ok xs =>
    simp only [q, R.bind_ok] at h
    intro J H1 s1 it A hA
    unfold lcL at h
    cases q2 : lcD vs T ta fe xs env with
    | no => simp only [q2] at h; exact h.elim
    | ex k fs => simp only [q2] at h; exact h.elim
    | ok cs =>
      simp only [q2] at h
      cases q3 : mapR asD cs with
      | no => simp only [q3] at h; exact h.elim
      | ex k fs => simp only [q3] at h; exact h.elim
      | ok ds =>
        simp only [q3] at h
        split at h
        · rename_i hl
          have hn : H A = none := s1.free hA
          refine ⟨fun i m H2 => m = xs.length - i ∧ i ≤ xs.length ∧ ∃ acc ys cs2 zs, Same H1 H2 ∧ H2 A = some (.lst acc) ∧ DpAll K (hide H2 (fun a => tO O0 own a ∨ a ∈ [A])) acc ys ∧ lcD vs T ta fe (xs.drop i) env = .ok cs2 ∧ mapR asD cs2 = .ok zs ∧ ys ++ zs = ds,
            ⟨xs.length, by simp, Nat.zero_le _, [], [], cs, ds, fun b o e => by rw [upd_ne (ne_of_none e hA)]; exact e, upd_same, .nil, q2, q3, rfl⟩, ?_⟩
          rintro i m H2 ⟨rfl, hi, acc, ys, cs2, zs, s2, eA, r, h3, h4, h5⟩
          obtain ⟨i1, i2⟩ := it i H2 s2
          by_cases hlt : i < xs.length
          · obtain ⟨x, hx⟩ : ∃ x, xs[i]? = some x := ⟨_, List.getElem?_eq_getElem hlt⟩
            obtain ⟨j1, j2⟩ := i1 x hx
            have ed : xs.drop i = x :: xs.drop (i + 1) := by
              rw [List.drop_eq_getElem_cons hlt]
              rw [List.getElem?_eq_getElem hlt] at hx
              rw [Option.some.inj hx]
            rw [ed] at h3
            refine .inr ⟨j1, fun H' => ∃ acc' ys' cs' zs', Same H1 H' ∧ H' A = some (.lst acc') ∧ DpAll K (hide H' (fun a => tO O0 own a ∨ a ∈ [A])) acc' ys' ∧ lcD vs T ta fe (xs.drop (i + 1)) env = .ok cs' ∧ mapR asD cs' = .ok zs' ∧ ys' ++ zs' = ds, fun H' hN => ⟨xs.length - (i + 1), by omega, rfl, hlt, hN⟩, fun v H' y => ?_⟩
            obtain ⟨rfl, hv⟩ := j2 v H' y
            have E2 : EnvOk K H0 H' O0 (ownX own env.length [A]) σ env := block_ok E (s1.trans s2) (fun a ha => by rw [List.mem_singleton.mp ha]; exact hn) (fun a ha => by rw [List.mem_singleton.mp ha]; exact ⟨_, eA⟩) (by simp)
            obtain ⟨own3, E3, eo3, el3, em3⟩ := wipe_ok E2 vs
            have hv2 : Dp K (hide H' (tO O0 own3)) v x := Dp_mono (fun b o w => by
              obtain ⟨n, w⟩ := hide_eq.mp w
              refine hide_eq.mpr ⟨fun z => ?_, s2 _ _ w⟩
              rcases tO_X.mp ((eo3 _).mp z) with z | z
              · exact n z
              · rw [List.mem_singleton.mp z, hA] at w
                cases w) _ _ hv
            have h3' := mapIf_ok h3
            cases q5 : T.put x (wipeC env vs) with
            | none =>
              simp only [q5] at h3'
              rcases h3' with ⟨z, _⟩ | ⟨_, _, z, _⟩ <;> cases z
            | some e' =>
              simp only [q5] at h3'
              refine tg_ok T E3 hv2 q5 fun σ3 own4 E4 sub3 hw ek => ⟨(hw vs hT).trans wipe_twice, H0, O0, own4, e', E4, ?_⟩
              have e4 : own4 = own3 := ek fun i hi hl => em3 i (hT i hi) (by rw [el3] at hl; exact hl)
              subst e4
              have seen : ∀ {H4 : Hp}, Same H' H4 → DpAll K (hide H4 (fun a => tO O0 own a ∨ a ∈ [A])) acc ys := fun s4 => DpAll_mono (same_h s4) _ _ r
              rcases h3' with ⟨t1, t2⟩ | ⟨c', cs', t1, t2, t3, t4⟩
              · rw [t1]
                intro H4 s4
                rw [if_neg Bool.false_ne_true]
                exact ⟨acc, ys, cs2, zs, s2.trans s4, s4 _ _ eA, seen s4, t2, h4, h5⟩
              · rw [t1]
                intro H4 s4
                rw [if_pos rfl]
                refine ⟨H0, O0, own4, e', E4.mono s4, ?_⟩
                rw [t2]
                intro u H5 os s5 fr5 nd5 r5
                subst t4
                obtain ⟨d', zs', z1, z2, z3⟩ := mapR_ok h4
                subst z3
                have s45 := s4.trans s5
                have hd : Dp K (hide H5 (tO O0 own4)) u d' := dat_at (E4.mono s4) fr5 r5 z1
                -- what the element leans on: neither owned by the frame nor the new list
                have hd2 : Dp K (hide H5 (fun a => tO O0 own a ∨ a ∈ [A])) u d' := Dp_mono (hide_same (Same.refl H5) fun a o _ z => (eo3 a).mpr (tO_X.mpr z)) _ _ hd
                have n : acc.length < sizeLine := by
                  rw [DpAll_len r, sizeLine_eq]
                  have : ys.length + (zs'.length + 1) = ds.length := by rw [← h5, List.length_append, List.length_cons]
                  omega
                refine ⟨acc, s45 _ _ eA, n, acc ++ [u], ys ++ [d'], cs', zs', fun b o w => ?_, upd_same, ?_, t3, z2, by rw [List.append_assoc]; exact h5⟩
                · rw [upd_ne (ne_of_none w hA)]
                  exact (s2.trans s45) _ _ w
                · have up : Same (hide H5 (fun a => tO O0 own a ∨ a ∈ [A])) (hide (upd H5 A (.lst (acc ++ [u]))) (fun a => tO O0 own a ∨ a ∈ [A])) := fun b o w => by
                    obtain ⟨w1, w2⟩ := hide_eq.mp w
                    refine hide_eq.mpr ⟨w1, ?_⟩
                    rw [upd_ne fun z => w1 (.inr (by rw [z]; exact List.mem_cons_self))]
                    exact w2
                  exact DpAll_mono up _ _ (DpAll_append (seen s45) (.cons hd2 .nil))
          · have e : i = xs.length := by omega
            subst e
            rw [List.drop_length] at h3
            cases h3
            cases h4
            rw [List.append_nil] at h5
            subst h5
            refine .inl ⟨i2 (Nat.le_refl _), h (.ref A) H2 [A] (s1.trans s2) (fun a ha => by rw [List.mem_singleton.mp ha]; exact hn) (by simp) ⟨A, acc, rfl, rfl, eA, r⟩⟩
        · exact h.elim
theorem asRow_ok {cell : Cell} {xs : List D} (h : asRow cell = .ok xs) : cell = .own xs := by
  unfold asRow at h
  split at h
  · cases h
    rfl
  · cases h
theorem RowsR_append {K : PySem.W.Frag} {H : Hp} {O : Addr → Prop} {bl : Addr} {ys : List D} (z : ∃ vs, H bl = some (.lst vs) ∧ DpAll K (hide H O) vs ys) : ∀ {as : List Addr} {xss : List (List D)}, RowsR K H O as xss → RowsR K H O (as ++ [bl]) (xss ++ [ys])
  | [], [], _ => ⟨z, trivial⟩
  | _ :: _, _ :: _, ⟨q, r⟩ => ⟨q, RowsR_append z r⟩
  | [], _ :: _, r => r.elim
  | _ :: _, [], r => r.elim
theorem RowsR_up {K : PySem.W.Frag} {H H' : Hp} {O O' : Addr → Prop} (s : Same (hide H O) (hide H' O')) : ∀ {as : List Addr} {xss : List (List D)}, (∀ a ∈ as, ∀ o, H a = some o → H' a = some o) → RowsR K H O as xss → RowsR K H' O' as xss
  | [], [], _, _ => trivial
  | a :: as, _ :: _, k, ⟨⟨vs, e, q⟩, r⟩ => ⟨⟨vs, k a List.mem_cons_self _ e, DpAll_mono s _ _ q⟩, RowsR_up s (fun b hb => k b (List.mem_cons_of_mem _ hb)) r⟩
  | [], _ :: _, _, r => r.elim
  | _ :: _, [], _, r => r.elim
/-- [elt for tg in l if ..], a list of own lists -/
theorem lc_row {K : PySem.W.Frag} {mg : Str → Option Value} {vs : List Nat} {T : Tg} (hT : ∀ i ∈ T.slots, i ∈ vs) : ∀ σ H Q, teD K mg W (fun en => (fi en).bind fun xs => lcR (lcD vs T ta fe xs en)) σ H Q → tLc (wcD K mg W fi) (T.tg K) (ttD K mg W0 ta) (teD K mg W0 fe) vs σ H Q := fun σ H Q ⟨H0, O0, own, env, E, h⟩ => by
  refine ⟨H0, O0, own, env, E, ?_⟩
  cases q : fi env with
  | no => simp only [q, R.bind_no] at h; exact h
  | ex k fs => simp only [q, R.bind_ex] at h; exact h
  | ok xs =>
    simp only [q, R.bind_ok] at h
    intro J H1 s1 it A hA
    unfold lcR at h
    cases q2 : lcD vs T ta fe xs env with
    | no => simp only [q2] at h; exact h.elim
    | ex k fs => simp only [q2] at h; exact h.elim
    | ok cs =>
      simp only [q2] at h
      cases q3 : mapR asRow cs with
      | no => simp only [q3] at h; exact h.elim
      | ex k fs => simp only [q3] at h; exact h.elim
      | ok ds =>
        simp only [q3] at h
        split at h
        · rename_i hl
          have hn : H A = none := s1.free hA
          refine ⟨fun i m H2 => m = xs.length - i ∧ i ≤ xs.length ∧ ∃ (as : List Addr) (ys : List (List D)) (cs2 : List Cell) (zs : List (List D)), Same H1 H2 ∧ (∀ b ∈ as, H1 b = none) ∧ (A :: as).Nodup ∧ H2 A = some (.lst (as.map V.ref)) ∧ RowsR K H2 (fun a => tO O0 own a ∨ a ∈ A :: as) as ys ∧ lcD vs T ta fe (xs.drop i) env = .ok cs2 ∧ mapR asRow cs2 = .ok zs ∧ ys ++ zs = ds,
            ⟨xs.length, by simp, Nat.zero_le _, [], [], cs, ds, fun b o e => by rw [upd_ne (ne_of_none e hA)]; exact e, fun b hb => (by cases hb), by simp, upd_same, trivial, q2, q3, rfl⟩, ?_⟩
          rintro i m H2 ⟨rfl, hi, as, ys, cs2, zs, s2, fa, nda, eA, r, h3, h4, h5⟩
          obtain ⟨i1, i2⟩ := it i H2 s2
          have fr : ∀ b ∈ A :: as, H1 b = none := fun b hb => by
            rcases List.mem_cons.mp hb with z | z
            · rw [z]; exact hA
            · exact fa b z
          by_cases hlt : i < xs.length
          · obtain ⟨x, hx⟩ : ∃ x, xs[i]? = some x := ⟨_, List.getElem?_eq_getElem hlt⟩
            obtain ⟨j1, j2⟩ := i1 x hx
            have ed : xs.drop i = x :: xs.drop (i + 1) := by
              rw [List.drop_eq_getElem_cons hlt]
              rw [List.getElem?_eq_getElem hlt] at hx
              rw [Option.some.inj hx]
            rw [ed] at h3
            refine .inr ⟨j1, fun H' => ∃ (as : List Addr) (ys : List (List D)) (cs2 : List Cell) (zs : List (List D)), Same H1 H' ∧ (∀ b ∈ as, H1 b = none) ∧ (A :: as).Nodup ∧ H' A = some (.lst (as.map V.ref)) ∧ RowsR K H' (fun a => tO O0 own a ∨ a ∈ A :: as) as ys ∧ lcD vs T ta fe (xs.drop (i + 1)) env = .ok cs2 ∧ mapR asRow cs2 = .ok zs ∧ ys ++ zs = ds, fun H' hN => ⟨xs.length - (i + 1), by omega, rfl, hlt, hN⟩, fun v H' y => ?_⟩
            obtain ⟨rfl, hv⟩ := j2 v H' y
            have E2 : EnvOk K H0 H' O0 (ownX own env.length (A :: as)) σ env := block_ok E (s1.trans s2) (fun a ha => s1.free (fr a ha)) (fun a ha => by
              rcases List.mem_cons.mp ha with z | z
              · rw [z]; exact ⟨_, eA⟩
              · exact RowsR_there r a z) nda
            obtain ⟨own3, E3, eo3, el3, em3⟩ := wipe_ok E2 vs
            have hv2 : Dp K (hide H' (tO O0 own3)) v x := Dp_mono (fun b o w => by
              obtain ⟨n, w⟩ := hide_eq.mp w
              refine hide_eq.mpr ⟨fun z => ?_, s2 _ _ w⟩
              rcases tO_X.mp ((eo3 _).mp z) with z | z
              · exact n z
              · rw [fr _ z] at w
                cases w) _ _ hv
            have h3' := mapIf_ok h3
            cases q5 : T.put x (wipeC env vs) with
            | none =>
              simp only [q5] at h3'
              rcases h3' with ⟨z, _⟩ | ⟨_, _, z, _⟩ <;> cases z
            | some e' =>
              simp only [q5] at h3'
              refine tg_ok T E3 hv2 q5 fun σ3 own4 E4 sub3 hw ek => ⟨(hw vs hT).trans wipe_twice, H0, O0, own4, e', E4, ?_⟩
              have e4 : own4 = own3 := ek fun i hi hl => em3 i (hT i hi) (by rw [el3] at hl; exact hl)
              subst e4
              have seen : ∀ {H4 : Hp}, Same H' H4 → RowsR K H4 (fun a => tO O0 own a ∨ a ∈ A :: as) as ys := fun s4 => RowsR_mono s4 (fun _ _ _ z => z) r
              rcases h3' with ⟨t1, t2⟩ | ⟨c', cs', t1, t2, t3, t4⟩
              · rw [t1]
                intro H4 s4
                rw [if_neg Bool.false_ne_true]
                exact ⟨as, ys, cs2, zs, s2.trans s4, fa, nda, s4 _ _ eA, seen s4, t2, h4, h5⟩
              · rw [t1]
                intro H4 s4
                rw [if_pos rfl]
                refine ⟨H0, O0, own4, e', E4.mono s4, ?_⟩
                rw [t2]
                intro u H5 os s5 fr5 nd5 r5
                subst t4
                obtain ⟨d', zs', z1, z2, z3⟩ := mapR_ok h4
                subst z3
                have s45 := s4.trans s5
                have ec := asRow_ok z1
                subst ec
                obtain ⟨bl, ws, rfl, eo, eb, rb⟩ := r5
                have nb : H4 bl = none := fr5 bl (by rw [eo]; exact List.mem_cons_self)
                have n : (as.map V.ref).length < sizeLine := by
                  rw [List.length_map, RowsR_len r, sizeLine_eq]
                  have : ys.length + (zs'.length + 1) = ds.length := by rw [← h5, List.length_append, List.length_cons]
                  omega
                have nA : bl ≠ A := fun z => by
                  rw [z, s4 _ _ eA] at nb
                  cases nb
                have nas : bl ∉ as := fun z => by
                  obtain ⟨o, w⟩ := RowsR_there r bl z
                  rw [s4 _ _ w] at nb
                  cases nb
                have up : Same (hide H5 (fun a => tO O0 own a ∨ a ∈ A :: as)) (hide (upd H5 A (.lst (as.map V.ref ++ [V.ref bl]))) (fun a => tO O0 own a ∨ a ∈ A :: as)) := fun b o w => by
                  obtain ⟨w1, w2⟩ := hide_eq.mp w
                  refine hide_eq.mpr ⟨w1, ?_⟩
                  rw [upd_ne fun z => w1 (.inr (by rw [z]; exact List.mem_cons_self))]
                  exact w2
                have less : ∀ a, (tO O0 own a ∨ a ∈ A :: as) ∨ a = bl → tO O0 own a ∨ a ∈ A :: (as ++ [bl]) := fun a z => by
                  rcases z with (z | z) | z
                  · exact .inl z
                  · refine .inr ?_
                    rcases List.mem_cons.mp z with z | z
                    · rw [z]; exact List.mem_cons_self
                    · exact List.mem_cons_of_mem _ (List.mem_append_left _ z)
                  · rw [z]; exact .inr (List.mem_cons_of_mem _ (List.mem_append_right _ (by simp)))
                have more : ∀ a, (tO O0 own a ∨ a ∈ A :: (as ++ [bl])) → (tO O0 own a ∨ a ∈ A :: as) ∨ a = bl := fun a z => by
                  rcases z with z | z
                  · exact .inl (.inl z)
                  · rcases List.mem_cons.mp z with z | z
                    · rw [z]; exact .inl (.inr List.mem_cons_self)
                    · rcases List.mem_append.mp z with z | z
                      · exact .inl (.inr (List.mem_cons_of_mem _ z))
                      · exact .inr (by simpa using z)
                -- what the elder rows lean on does not lean on the new row: it is younger
                have old : Same (hide H4 (fun a => tO O0 own a ∨ a ∈ A :: as)) (hide (upd H5 A (.lst (as.map V.ref ++ [V.ref bl]))) (fun a => tO O0 own a ∨ a ∈ A :: (as ++ [bl]))) := fun b o w => by
                  obtain ⟨w1, w2⟩ := hide_eq.mp w
                  refine hide_eq.mpr ⟨fun z => ?_, ?_⟩
                  · rcases more b z with z | z
                    · exact w1 z
                    · rw [z, nb] at w2
                      cases w2
                  · rw [upd_ne fun z => w1 (.inr (by rw [z]; exact List.mem_cons_self))]
                    exact s5 _ _ w2
                have rnew : DpAll K (hide (upd H5 A (.lst (as.map V.ref ++ [V.ref bl]))) (fun a => tO O0 own a ∨ a ∈ A :: (as ++ [bl]))) ws d' := by
                  refine DpAll_mono (fun b o w => ?_) _ _ rb
                  obtain ⟨w1, w2⟩ := hide_eq.mp w
                  have n1 : ¬ (tO O0 own b ∨ b ∈ A :: as) := fun z => w1 (.inl ((eo3 b).mpr (tO_X.mpr z)))
                  have n2 : b ≠ bl := fun z => w1 (.inr (by rw [z, eo]; exact List.mem_cons_self))
                  refine hide_eq.mpr ⟨fun z => (more b z).elim n1 n2, ?_⟩
                  rw [upd_ne fun z => n1 (.inr (by rw [z]; exact List.mem_cons_self))]
                  exact w2
                refine ⟨as.map V.ref, s45 _ _ eA, n, as ++ [bl], ys ++ [d'], cs', zs', fun b o w => ?_, fun b hb => ?_, ?_, ?_, ?_, t3, z2, by rw [List.append_assoc]; exact h5⟩
                · rw [upd_ne (ne_of_none w hA)]
                  exact (s2.trans s45) _ _ w
                · rcases List.mem_append.mp hb with z | z
                  · exact fa b z
                  · rw [show b = bl by simpa using z]
                    exact s2.free (s4.free nb)
                · refine List.nodup_cons.mpr ⟨fun z => ?_, List.nodup_append.mpr ⟨(List.nodup_cons.mp nda).2, by simp, fun a h1 b h2 z => ?_⟩⟩
                  · rcases List.mem_append.mp z with z | z
                    · exact (List.nodup_cons.mp nda).1 z
                    · exact nA (show A = bl by simpa using z).symm
                  · rw [show b = bl by simpa using h2] at z
                    exact nas (by rw [← z]; exact h1)
                · rw [upd_same, List.map_append]
                  rfl
                · refine RowsR_append ⟨ws, by rw [upd_ne nA]; exact eb, rnew⟩ (RowsR_up old (fun b hb o w => ?_) (seen s4))
                  rw [upd_ne fun z => (List.nodup_cons.mp nda).1 (by rw [← z]; exact hb)]
                  exact s5 _ _ w
          · have e : i = xs.length := by omega
            subst e
            rw [List.drop_length] at h3
            cases h3
            cases h4
            rw [List.append_nil] at h5
            subst h5
            exact .inl ⟨i2 (Nat.le_refl _), h (.ref A) H2 (A :: as) (s1.trans s2) (fun a ha => s1.free (fr a ha)) nda ⟨A, as, rfl, rfl, eA, r⟩⟩
        · exact h.elim
/-- the context of a comprehension's block -/
abbrev Bk (X : Cx) (scope : Scope) (s : Shared) (H : Hp) (C : Addr) (cl : List (Str × Addr)) (fp : List Addr) : Cx := X.blk s H scope (compEnvC scope cl C X.env) fp
variable {ifs : List Expr} {scope : Scope} {own : List (Str × Nat)} {T : Tg} {y : Str} {i : Nat} {py spos : Pos}
theorem de_lc (hc : X.calm = true) (hN : X.N.Nodup) (hi : PI X tg l (wcD X.K X.mg W fi)) (ok : BlkOk X.N X.env.scope scope own) (hg : ∀ s H C cl fp, PG (Bk X scope s H C cl fp) tg (T.tg X.K)) (ht : ∀ s H C cl fp, PTs (Bk X scope s H C cl fp) ifs (ttD X.K X.mg W0 ta)) (he : ∀ s H C cl fp, PE (Bk X scope s H C cl fp) elt (teD X.K X.mg W0 fe))
    (hT : ∀ i ∈ T.slots, i ∈ own.map (·.2) := by decide) (hs : ∀ x, foldedSetIterable l X.env x = pure x := by intro _; rfl) : PE X (.ListComp elt [⟨tg, l, ifs, 0⟩] scope pos) (teD X.K X.mg W fun en => (fi en).bind fun xs => lcL (lcD (own.map (·.2)) T ta fe xs en)) :=
  PE.imp (pe_lc hc hN hi ok hg ht he hs) (lc_dat hT)
theorem de_lcR (hc : X.calm = true) (hN : X.N.Nodup) (hi : PI X tg l (wcD X.K X.mg W fi)) (ok : BlkOk X.N X.env.scope scope own) (hg : ∀ s H C cl fp, PG (Bk X scope s H C cl fp) tg (T.tg X.K)) (ht : ∀ s H C cl fp, PTs (Bk X scope s H C cl fp) ifs (ttD X.K X.mg W0 ta)) (he : ∀ s H C cl fp, PE (Bk X scope s H C cl fp) elt (teD X.K X.mg W0 fe))
    (hT : ∀ i ∈ T.slots, i ∈ own.map (·.2) := by decide) (hs : ∀ x, foldedSetIterable l X.env x = pure x := by intro _; rfl) : PE X (.ListComp elt [⟨tg, l, ifs, 0⟩] scope pos) (teD X.K X.mg W fun en => (fi en).bind fun xs => lcR (lcD (own.map (·.2)) T ta fe xs en)) :=
  PE.imp (pe_lc hc hN hi ok hg ht he hs) (lc_row hT)
theorem set_lc {K : PySem.W.Frag} {mg : Str → Option Value} {te : TE} (ht : ∀ σ H Q, teD K mg W fa σ H Q → te σ H Q) : ∀ D σ H, tsD K mg W (fun en => (fa en).into en (setR i en)) D σ H → tAsg te (gName i) D σ H := fun D σ H ⟨H0, O0, own, env, E, h⟩ => by
  refine ht σ H _ ⟨H0, O0, own, env, E, ?_⟩
  cases q : fa env with
  | no => simp only [q, R.into_no] at h; exact h
  | ex k fs => simp only [q, R.into_ex] at h; exact into_ex E h
  | ok c =>
    simp only [q, R.into_ok] at h
    unfold setR at h
    intro v H' os s fr nd r
    split at h
    · rename_i hl
      obtain ⟨E', s'⟩ := store_new E hl s fr nd r
      exact h _ H' _ E' s'
    · exact h.elim
/-- y = [..] on one line -/
theorem ds_lc (hc : X.calm = true) (hN : X.N.Nodup) (hsw : swapsWith (.ListComp elt [⟨tg, l, ifs, 0⟩] scope pos) (some (.Name y py)) spos.line X.env = pure true) (hi : PI X tg l (wcD X.K X.mg W fi)) (ok : BlkOk X.N X.env.scope scope own) (hg : ∀ s H C cl fp, PG (Bk X scope s H C cl fp) tg (T.tg X.K)) (ht : ∀ s H C cl fp, PTs (Bk X scope s H C cl fp) ifs (ttD X.K X.mg W0 ta)) (he : ∀ s H C cl fp, PE (Bk X scope s H C cl fp) elt (teD X.K X.mg W0 fe))
    (hy : X.N[i]? = some y := by rfl) (hyl : X.env.scope.names.lookup y = some .local := by rfl) (hT : ∀ i ∈ T.slots, i ∈ own.map (·.2) := by decide) (hs : ∀ x, foldedSetIterable l X.env x = pure x := by intro _; rfl) :
    PS X (.Assign [.Name y py] (.ListComp elt [⟨tg, l, ifs, 0⟩] scope pos) spos) (tsD X.K X.mg W fun en => ((fi en).bind fun xs => lcL (lcD (own.map (·.2)) T ta fe xs en)).into en (setR i en)) :=
  PS.imp (ps_setLc hc hN hy hyl hsw hi ok hg ht he hs) (set_lc (lc_dat hT))
theorem ds_lcR (hc : X.calm = true) (hN : X.N.Nodup) (hsw : swapsWith (.ListComp elt [⟨tg, l, ifs, 0⟩] scope pos) (some (.Name y py)) spos.line X.env = pure true) (hi : PI X tg l (wcD X.K X.mg W fi)) (ok : BlkOk X.N X.env.scope scope own) (hg : ∀ s H C cl fp, PG (Bk X scope s H C cl fp) tg (T.tg X.K)) (ht : ∀ s H C cl fp, PTs (Bk X scope s H C cl fp) ifs (ttD X.K X.mg W0 ta)) (he : ∀ s H C cl fp, PE (Bk X scope s H C cl fp) elt (teD X.K X.mg W0 fe))
    (hy : X.N[i]? = some y := by rfl) (hyl : X.env.scope.names.lookup y = some .local := by rfl) (hT : ∀ i ∈ T.slots, i ∈ own.map (·.2) := by decide) (hs : ∀ x, foldedSetIterable l X.env x = pure x := by intro _; rfl) :
    PS X (.Assign [.Name y py] (.ListComp elt [⟨tg, l, ifs, 0⟩] scope pos) spos) (tsD X.K X.mg W fun en => ((fi en).bind fun xs => lcR (lcD (own.map (·.2)) T ta fe xs en)).into en (setR i en)) :=
  PS.imp (ps_setLc hc hN hy hyl hsw hi ok hg ht he hs) (set_lc (lc_row hT))
/-! ### a table's item is set: t[k][j] = e, t in slot i -/
theorem RowsR_set {K : PySem.W.Frag} {H H' : Hp} {O : Addr → Prop} (s : Same (hide H O) (hide H' O)) {al : Addr} {ys : List D} (z : ∃ vs, H' al = some (.lst vs) ∧ DpAll K (hide H' O) vs ys) (k : ∀ a o, a ≠ al → H a = some o → H' a = some o) : ∀ {as : List Addr} {xss : List (List D)} {j : Nat}, as.Nodup → as[j]? = some al → RowsR K H O as xss → RowsR K H' O as (xss.set j ys)
  | [], [], _, _, e, _ => by simp at e
  | a :: as, xs :: xss, 0, nd, e, ⟨q, r⟩ => by
    simp at e
    subst e
    refine ⟨z, RowsR_up s (fun b hb o w => k b o (fun zz => (List.nodup_cons.mp nd).1 (by rw [← zz]; exact hb)) w) r⟩
  | a :: as, xs :: xss, j + 1, nd, e, ⟨⟨vs, q1, q2⟩, r⟩ => by
    have e' : as[j]? = some al := by simpa using e
    have na : a ≠ al := fun zz => (List.nodup_cons.mp nd).1 (by rw [zz]; exact List.mem_of_getElem? e')
    exact ⟨⟨vs, k a _ na q1, DpAll_mono s _ _ q2⟩, RowsR_set s z k (List.nodup_cons.mp nd).2 e' r⟩
  | [], _ :: _, _, _, _, r => r.elim
  | _ :: _, [], _, _, _, r => r.elim
theorem ds_setII (i : Nat) {sp : Pos} {o : Expr} {fb fc : Env → R Cell} (pg : PG X (.Subscript o b sp) (gSub (tOp (rIx X.K) (tVar i) (teD X.K X.mg W fc)) (teD X.K X.mg W fb) rSetL)) (ha : PE X a (teD X.K X.mg W fa)) (hs : swapsWithSole [.Subscript o b sp] a pos.line X.env = pure false := by rfl) (hw : swappedStores [.Subscript o b sp] a X.env = pure none := by rfl)
    (h1 : (assignEach [.Subscript o b sp] X.env).map (·.2) = [assign (.Subscript o b sp) X.env] := by rfl) :
    PS X (.Assign [.Subscript o b sp] a pos) (tsD X.K X.mg W fun en => ((fa en).bind asD).into en fun d => own2At i en fun xss => ((fc en).bind cellI).into en fun k => match ixN xss.length k with
      | none => .no
      | some n => ((fb en).bind cellI).into en fun j => match setAt (xss.getD n []) j d with | some ys => .nx (en.set i (.own2 (xss.set n ys))) | none => .no) :=
  PS.imp (ps_asg ha pg hs hw h1) fun D σ H ⟨H0, O0, own, env, E, h⟩ => by
  refine ⟨H0, O0, own, env, E, ?_⟩
  cases q : fa env with
  | no => simp only [q, R.bind_no, R.into_no] at h; exact h
  | ex k fs => simp only [q, R.bind_ex, R.into_ex] at h; exact into_ex E h
  | ok c =>
    simp only [q, R.bind_ok] at h
    intro v H' os s fr nd r
    cases q3 : asD c with
    | no => simp only [q3, R.into_no] at h; exact h.elim
    | ex k fs => exact (asD_ex q3).elim
    | ok d =>
      simp only [q3, R.into_ok] at h
      have hd := dat_at E fr r q3
      obtain ⟨xss, q4, h⟩ := own2At_some h
      obtain ⟨v1, e1, al, as, rfl, eo, e2, e3⟩ := E.get q4 (fun z => by cases z)
      refine ⟨.ref al, e1, H0, O0, own, env, E.mono s, ?_⟩
      cases q5 : fc env with
      | no => simp only [q5, R.bind_no, R.into_no] at h; exact h
      | ex k fs => simp only [q5, R.bind_ex, R.into_ex] at h; exact into_ex (E.mono s) (OutH.mono (same_h s) h)
      | ok c2 =>
        simp only [q5, R.bind_ok] at h
        intro u H2 os2 s2 fr2 nd2 r2
        cases q6 : cellI c2 with
        | no => simp only [q6, R.into_no] at h; exact h.elim
        | ex k fs => exact (cellI_ex q6).elim
        | ok k =>
          simp only [q6, R.into_ok] at h
          have eu := cellI_ok q6 r2
          subst eu
          have s12 := s.trans s2
          cases q8 : ixN xss.length k with
          | none =>
            simp only [q8] at h
            exact h.elim
          | some n =>
            simp only [q8] at h
            have hn : n < xss.length := ixN_of q8
            have hg : xss[n]? = some (xss.getD n []) := by
              rw [List.getD_eq_getElem?_getD, List.getElem?_eq_getElem hn]
              rfl
            obtain ⟨bl, ws, e4, e5, e6⟩ := RowsR_get e3 hg
            refine .inl ⟨al, as.map V.ref, k, .ref bl, rfl, rfl, SqL.of (s12 _ _ e2), Option.bind_eq_some_iff.mpr ⟨n, by rw [List.length_map, RowsR_len e3]; exact q8, by rw [List.getElem?_map, e4]; rfl⟩, H0, O0, own, env, E.mono s12, ?_⟩
            cases q7 : fb env with
            | no => simp only [q7, R.bind_no, R.into_no] at h; exact h.elim
            | ex k fs =>
              simp only [q7, R.bind_ex, R.into_ex] at h
              exact into_ex (E.mono s12) (OutH.mono (same_h s12) h)
            | ok c3 =>
              simp only [q7, R.bind_ok] at h
              intro u3 H3 os3 s3 fr3 nd3 r3
              cases q9 : cellI c3 with
              | no => simp only [q9, R.into_no] at h; exact h.elim
              | ex k fs => exact (cellI_ex q9).elim
              | ok j =>
                simp only [q9, R.into_ok] at h
                have eu := cellI_ok q9 r3
                subst eu
                unfold setAt at h
                cases q10 : ixN (xss.getD n []).length j with
                | none =>
                  rw [q10] at h
                  exact h.elim
                | some jn =>
                  rw [q10] at h
                  have h : OutH X.K X.mg W H0 O0 H (tO O0 own) D (.nx (env.set i (.own2 (xss.set n ((xss.getD n []).set jn d))))) := h
                  have s123 := s12.trans s3
                  have mem : al ∈ own i := by rw [eo]; exact List.mem_cons_self
                  have memb : bl ∈ own i := by rw [eo]; exact List.mem_cons_of_mem _ (List.mem_of_getElem? e4)
                  have hi : i < env.length := (List.getElem?_eq_some_iff.mp q4).1
                  have nd0 := E.nd i
                  rw [eo] at nd0
                  have nab : al ≠ bl := fun z => (List.nodup_cons.mp nd0).1 (by rw [z]; exact List.mem_of_getElem? e4)
                  have E3 := E.mono s123
                  refine ⟨bl, ws, j, jn, rfl, rfl, s123 _ _ e5, by rw [DpAll_len e6]; exact q10, ?_⟩
                  have n1 : ∀ a o, H3 a = some o → ¬ tO O0 own a → upd H3 bl (.lst (ws.set jn v)) a = some o := fun a o w n => by
                    rw [upd_ne fun z => n (by rw [z]; exact .inr ⟨i, memb⟩)]
                    exact w
                  have eqo : ownSet own i (own i) = own := by
                    funext j
                    unfold ownSet
                    by_cases hj : j = i
                    · rw [if_pos hj, hj]
                    · rw [if_neg hj]
                  have sm : Same (hide H3 (tO O0 own)) (hide (upd H3 bl (.lst (ws.set jn v))) (tO O0 own)) := fun a o w => by
                    obtain ⟨w1, w2⟩ := hide_eq.mp w
                    exact hide_eq.mpr ⟨w1, n1 a o w2 w1⟩
                  have big := same_h (O := tO O0 own) s123
                  have w := E3.set (c := .own2 (xss.set n ((xss.getD n []).set jn d))) (x := some (.ref al)) (os := own i) (H' := upd H3 bl (.lst (ws.set jn v))) hi (fun a o w => by
                      rw [upd_ne fun z => by
                        rw [z, E.fresh i bl memb] at w
                        cases w]
                      exact E3.same a o w) n1 (fun j' a o hj ha w => by
                      rw [upd_ne fun z => E.dj i j' bl (Ne.symm hj) memb (by rw [← z]; exact ha)]
                      exact w) (fun a ha => by
                      by_cases z : a = bl
                      · rw [z]; exact ⟨_, upd_same⟩
                      · rw [upd_ne z]; exact E3.th i a ha) (fun a ha => E.fresh i a ha) (fun a ha => .inr ha) (E.nd i) ⟨.ref al, rfl, al, as, rfl, eo, by rw [upd_ne nab]; exact s123 _ _ e2, by
                        rw [eqo]
                        exact RowsR_set sm ⟨_, upd_same, DpAll_mono sm _ _ (DpAll_set (Dp_mono (same_h (s2.trans s3)) _ _ hd) jn (DpAll_mono big _ _ e6))⟩ (fun a o na w => by rw [upd_ne na]; exact w) (List.nodup_cons.mp nd0).2 e4 (RowsR_mono s123 (fun _ _ _ z => z) e3)⟩
                  rw [eqo] at w
                  have e9 : σ.set i (some (.ref al)) = σ := set_self e1
                  rw [e9] at w
                  exact h _ _ own w (big.trans sm)
/-! ### a def's body -/
def startD (n : Nat) (ds : List D) : Env := ds.map Cell.d ++ List.replicate (n - ds.length) .un
def endD (o : Out) : R Cell := match o with
  | .nx _ => .ok (.d .none)
  | .rt c => .ok c
  | .ex k fs _ => .ex k fs
  | _ => .no
/-- a def of n parameters, N slots, its body g -/
def runD (N n : Nat) (g : Env → Out) (ds : List D) : R Cell := if ds.length = n then endD (g (startD N ds)) else .no
theorem runD_no {N n : Nat} {g : Env → Out} : ∀ ds : List D, ds.length ≠ n → runD N n g ds = .no := fun ds h => if_neg h
theorem start_ok {K : PySem.W.Frag} {H : Hp} {O : Addr → Prop} {ds : List D} {vs : List V} {N : List Str} (hO : ∀ a, O a → ∃ o, H a = some o) (r : DpAll K (hide H O) vs ds) : EnvOk K H H O (fun _ => []) (L2.start N vs) (startD N.length ds) := by
  have hl := DpAll_len r
  have eO : tO O (fun _ => []) = O := by
    funext a
    refine propext ⟨fun z => ?_, fun z => .inl z⟩
    rcases z with z | ⟨_, z⟩
    · exact z
    · cases z
  refine ⟨Same.refl H, by unfold L2.start startD; simp [hl], fun i c e => ?_, fun i a h => (by cases h), fun i => List.nodup_nil, fun i j a _ h => (by cases h), fun i a h => (by cases h), hO⟩
  rw [eO]
  unfold startD at e
  unfold L2.start
  by_cases hi : i < ds.length
  · rw [List.getElem?_append_left (by simpa using hi), List.getElem?_map] at e
    rw [List.getElem?_append_left (by simpa [hl] using hi), List.getElem?_map]
    rw [List.getElem?_eq_getElem hi] at e
    cases e
    obtain ⟨v, e1, e2⟩ := DpAll_get r (List.getElem?_eq_getElem hi)
    exact ⟨v, by rw [e1]; rfl, rfl, e2⟩
  · rw [List.getElem?_append_right (by simpa using hi)] at e
    rw [List.getElem?_replicate] at e
    split at e
    · cases e
      exact trivial
    · cases e
theorem fnD {P : Program} {w : World} {mg : Str → Option Value} {base : Heap} {K : PySem.W.Frag} {x qual : Str} {fst : Stmt} {f : Addr} {fd : FuncData} {N ps : List Str} {k : Nat} {gb : Env → Out} (F : Fun K x qual fst f fd) (S : FnScope N ps (defScope fst))
    (hb : ∀ (cdv : Value) (A : Around) (outer : List PySem.Env) (s : Shared) (H : Hp) (E : XK), Room k (A.deeper (envOfC qual (defScope fst) s.heap.objs.size f cdv)) →
      PSs (cxOf (L2.CX P w) P w K mg base N qual (defScope fst) f cdv A outer s H E) (defBody fst) (tsD K mg (fun cls d _ H => E cls d H) gb)) :
    FnOk P w K mg base (L2.CX P w) (k + 1) f fd ps (spD K mg ps.length (runD N.length ps.length gb)) := by
  refine F.okX S (fun vs H Q E h => ?_) (fun cdv A outer s H vs Q E hr h => ⟨_, hb cdv A outer s H E hr, ?_⟩)
  · obtain ⟨O, ds, _, hl, r, _⟩ := h
    rw [DpAll_len r, hl]
  · obtain ⟨O, ds, hO, hl, r, h⟩ := h
    have eO : tO O (fun _ => []) = O := by
      funext a
      refine propext ⟨fun z => ?_, fun z => .inl z⟩
      rcases z with z | ⟨_, z⟩
      · exact z
      · cases z
    refine ⟨H, O, fun _ => [], _, start_ok hO r, ?_⟩
    unfold runD at h
    rw [if_pos hl] at h
    cases q : gb (startD N.length ds) with
    | no => rw [q] at h; exact h
    | bk e => rw [q] at h; exact h.elim
    | ct e => rw [q] at h; exact h.elim
    | rt c =>
      rw [q] at h
      exact fun v H' os s fr nd r => h v H' os s fr nd r
    | nx e =>
      rw [q] at h
      exact fun σ' H' own' E' s => h .non H' [] E'.same (fun a ha => by cases ha) List.nodup_nil ⟨rfl, .non⟩
    | ex k fs e =>
      rw [q] at h
      intro σ' H' own' cls d E' s w
      refine h H' cls d E'.same (ExcR_mono (hide_same (Same.refl H') fun a o _ z => .inl z) w)
end
end DL
/-! ## DL, part 9: own exceptions, the law's end -/
namespace DL
open PySem PySem.Spec PyProof.Rows L2
/-! ### an own exception class with one field -/
/-- what the top has written of the class named x: __init__(self, f) that stores f -/
structure Exc1 (K : PySem.W.Frag) (mg : Str → Option Value) (x f : Str) (st : Stmt) : Prop where
  ex : ∃ (C fI : Addr) (fd : FuncData) (q : Str), mg x = some (.ref C) ∧ OexC K C ∧ XfC K C ∧ PySem.W.findIn K (.ref C) f = some none ∧ PySem.W.findIn K (.ref C) "__init__" = some (some (.ref fI)) ∧ PySem.W.typeIn K (.ref fI) = some (.type "function") ∧
    Fun K "__init__" q st fI fd ∧ Binds K fd ["self", f] [] ∧ PySem.W.exmOne K (.ref C) (.ref C) = some true
  sc : FnScope ["self", f] ["self", f] (defScope st)
  body : ∃ q1 q2 q3 q4, defBody st = [.Assign [.Attribute (.Name "self" q1) f q2] (.Name f q3) q4]
  lf : (defScope st).names.lookup f = some .local
  ls : (defScope st).names.lookup ("self" : Str) = some .local
  nd : (f == ("__debug__" : Str)) = false ∧ (f == ("__classdict__" : Str)) = false
def spIni (K : PySem.W.Frag) (f : Str) : Sp := fun vs H Q _ => ∃ (a C : Addr) (y : V), vs = [.ref a, y] ∧ OexC K C ∧ PySem.W.findIn K (.ref C) f = some none ∧ H a = some (exo a C none) ∧ ∀ dx, H dx = none → dx ≠ a → Q .non (upd (upd H dx (exd dx [(f, y)])) a (exo a C (some dx)))
section
variable {P : Program} {w : World} {K : PySem.W.Frag} {mg : Str → Option Value} {base : Heap}
theorem ini_ok {f q : Str} {st : Stmt} {fI : Addr} {fd : FuncData} (F : Fun K "__init__" q st fI fd) (S : FnScope ["self", f] ["self", f] (defScope st)) (hb : ∃ q1 q2 q3 q4, defBody st = [.Assign [.Attribute (.Name "self" q1) f q2] (.Name f q3) q4]) (lf : (defScope st).names.lookup f = some .local) (ls : (defScope st).names.lookup ("self" : Str) = some .local)
    (nd : (f == ("__debug__" : Str)) = false ∧ (f == ("__classdict__" : Str)) = false) : FnOk P w K mg base (L2.CX P w) 1 fI fd ["self", f] (spIni K f) := by
  refine F.okX S (fun vs H Q E h => ?_) (fun cdv A outer s H vs Q E hr h => ?_)
  · obtain ⟨a, C, y, rfl, _⟩ := h
    rfl
  · obtain ⟨a, C, y, rfl, T, hno, ea, h⟩ := h
    obtain ⟨q1, q2, q3, q4, eb⟩ := hb
    rw [eb]
    refine ⟨_, pss_one (ps_ost (pe_var (i := 0) rfl (.inl ls)) (pe_var (i := 1) rfl (.inl lf) nd.1 nd.2)), ?_⟩
    exact ⟨y, rfl, .ref a, rfl, a, C, rfl, T, hno, .inl ⟨ea, fun dx n ne => h dx n ne⟩⟩
variable {X : Cx} {W : WX} {a : Expr} {fa : Env → R Cell} {pos p : Pos} {x f : Str} {st : Stmt}
/-- raise X(e) -/
theorem ds_raise1 (T : Exc1 X.K X.mg x f st) (hr : Room 2 X.A) (tk : Takes X W) (hc : X.calm = true) (ha : PE X a (teD X.K X.mg W fa)) (hg : Gl X x := by rfl) (hdb : (x == ("__debug__" : Str)) = false := by decide)
    (he : starEach (a :: []) X.env = (false, eval a X.env) :: starEach [] X.env := by rfl) (hpl : (backTo p (starEach [] X.env)).any (·.1) = false := by rfl) {np : Pos} :
    PS X (.Raise (some (.Call (.Name x np) [a] [] p)) none pos) (tsD X.K X.mg W fun en => ((fa en).bind asD).into en fun d => .ex x [(f, d)] en) := by
  obtain ⟨C, fI, fd, q, hm, TO, TX, hno, iC, tI, F, bI, te⟩ := T.ex
  refine PS.imp (ps_raise hc tk (pmk_oex (dvs := []) TO iC tI (ini_ok F T.sc T.body T.lf T.ls T.nd) hr bI .nil passL hg hm (pa_cons ha pa_nil he) hdb he hpl)) fun D σ H ⟨H0, O0, own, env, E, h⟩ => ?_
  refine ⟨H0, O0, own, env, E, ?_⟩
  cases q2 : fa env with
  | no => simp only [q2, R.bind_no, R.into_no] at h; exact h
  | ex k fs => simp only [q2, R.bind_ex, R.into_ex] at h; exact into_ex E h
  | ok c =>
    simp only [q2, R.bind_ok] at h
    intro v H1 os s fr nd r
    cases q3 : asD c with
    | no => simp only [q3, R.into_no] at h; exact h.elim
    | ex k fs => exact (asD_ex q3).elim
    | ok d =>
      simp only [q3, R.into_ok] at h
      have hd := dat_at E fr r q3
      refine ⟨(by show 1 ≤ 1000; decide), fun al hal => ?_⟩
      refine ⟨al, C, v, rfl, TO, hno, upd_same, fun dx hdx ne => ⟨rfl, dx, [(f, v)], upd_same, ?_, ?_, ?_⟩⟩
      · rw [upd_ne ne]
        exact upd_same
      · rw [upd_ne ne] at hdx
        exact hdx
      · have hdx1 : H1 dx = none := by
          rw [upd_ne ne] at hdx
          exact hdx
        have sm : Same H1 (upd (del (upd (upd (upd H1 al (exo al C none)) dx (exd dx [(f, v)])) al (exo al C (some dx))) al) dx (.xd [(f, v)])) := fun b o e => by
          have nb : b ≠ al := ne_of_none e hal
          have nx : b ≠ dx := ne_of_none e hdx1
          rw [upd_ne nx, del_ne nb, upd_ne nb, upd_ne nx, upd_ne nb]
          exact e
        refine h σ _ own (.ref C) (some dx) (E.mono (s.trans sm)) (same_h (s.trans sm)) ⟨⟨C, hm, rfl⟩, .inr ⟨dx, [(f, v)], rfl, hide_eq.mpr ⟨fun z => ?_, upd_same⟩, rfl, Dp_mono (same_h sm) _ _ hd, trivial⟩⟩
        obtain ⟨o, e⟩ := (E.mono s).thereO dx z
        rw [hdx1] at e
        cases e
/-- try: body / except X as e: return e.f -/
def tryF (i : Nat) (x f : Str) (o : Out) : Out := match o with
  | .ex k fs e => if k = x ∧ i < e.length then (match fs with
      | [(g, d)] => if g = f then .rt (.d d) else .no
      | _ => .no) else .no
  | .rt c => .rt c
  | .nx e => .nx e
  | _ => .no
theorem ds_tryF {i : Nat} {n : Str} {body : List Stmt} {g : Env → Out} {np np2 ap hp2 p1 p2 : Pos} (T : Exc1 X.K X.mg x f st) (hN : X.N.Nodup)
    (hb : ∀ (W : WX) (pn : List (Addr × Obj)) (xe : Value → Shared → Prop), Takes (X.tr pn xe) W → PassesOwn (model X.prog X.w) X.A X.env xe → PSs (X.tr pn xe) body (tsD X.K X.mg W g))
    (hs : X.stack = X.env :: X.outer := by rfl) (hf : X.env.frame = some X.env.locals := by rfl) (hi : X.N[i]? = some n := by rfl) (hln : X.env.kindOf n = some .local := by rfl) (hg : Gl X x := by rfl) (hdb : (x == ("__debug__" : Str)) = false := by decide) (hdn : (n == ("__debug__" : Str)) = false := by decide) (hcn : (n == ("__classdict__" : Str)) = false := by decide)
    (hat : ∀ al pn, attributeBase (.Name n np2) f (X.suite al pn).env (eval (.Name n np2) (X.suite al pn).env) = eval (.Name n np2) (X.suite al pn).env := by intros; rfl) :
    PS X (.Try body [.ExceptHandler (some (.Name x np)) (some n) [.Return (some (.Attribute (.Name n np2) f ap)) p1] hp2] [] [] p2) (tsD X.K X.mg W fun en => tryF i x f (g en)) := by
  obtain ⟨C, fI, fd, q, hm, TO, TX, hno, iC, tI, F, bI, te⟩ := T.ex
  refine PS.imp (ps_try_as (c := .ref C) (i := i) (Wout := fun _ _ _ _ => False) hs hf hN hi hln ⟨hg, hdb, .inl hm⟩ takes0 hb (fun al oe cls d pn hz hd => pss_one (ps_ret (pe_xf (C := C) TX hno hz hd (pe_var (i := i) hi (.inl hln) hdn hcn) (hat al ((al, oe) :: pn)))))) fun D σ H ⟨H0, O0, own, env, E, h⟩ => ?_
  refine ⟨H0, O0, own, env, E, ?_⟩
  cases q2 : g env with
  | no => simp only [q2, tryF] at h; exact h
  | bk e => simp only [q2, tryF] at h; exact h.elim
  | ct e => simp only [q2, tryF] at h; exact h.elim
  | rt c => simp only [q2, tryF] at h; exact h
  | nx e => simp only [q2, tryF] at h; exact h
  | ex k fs e =>
    simp only [q2, tryF] at h
    split at h
    · rename_i ek
      obtain ⟨ek, hil⟩ := ek
      subst ek
      split at h
      · rename_i g' d'
        split at h
        · rename_i eg
          subst eg
          intro σ' H' own' cls dd E' s r
          obtain ⟨⟨C', hC, rfl⟩, r2⟩ := r
          have eC : C' = C := by
            rw [hm] at hC
            cases hC
            rfl
          subst eC
          rcases r2 with ⟨z, _⟩ | ⟨d2, vs, rfl, ed, r3⟩
          · cases z
          · cases vs with
            | nil => exact r3.elim
            | cons p0 vs =>
              cases vs with
              | cons _ _ => exact r3.2.2.elim
              | nil =>
                obtain ⟨e1, e2, _⟩ := r3
                obtain ⟨g1, v1⟩ := p0
                have e1 : g1 = g' := e1
                subst e1
                have hl : i < σ'.length := by
                  rw [E'.len]
                  exact hil
                refine ⟨true, te, fun _ al hal => ⟨.ref al, by rw [List.getElem?_set_self hl], rfl, rfl, d2, [(g1, v1)], v1, rfl, (hide_eq.mp ed).2, by simp [List.lookup], ?_⟩, fun z => by cases z⟩
                exact h v1 H' [] E'.same (fun a ha => by cases ha) List.nodup_nil ⟨rfl, Dp_mono (hide_same (Same.refl H') fun a o _ z => .inl (by
                  rcases z with z | z
                  · exact z
                  · cases z)) _ _ e2⟩
        · exact h.elim
      · exact h.elim
    · exact h.elim
end
/-- an exception of the class is caught by the class's own name -/
theorem exm_same {K : PySem.W.Frag} {C : Addr} (b : PySem.W.subIn K (.ref C) (.type "BaseException") = some true) (i : PySem.W.isClsIn K C = true) (t : PySem.W.typeIn K (.ref C) = some (.type "type")) (z : PySem.W.subIn K (.ref C) (.ref C) = some true) : PySem.W.exmOne K (.ref C) (.ref C) = some true := by
  have i' : (PySem.W.clsIn K C).isSome = true := i
  unfold PySem.W.exmOne PySem.W.kitCls
  simp [b, i', t, z]
/-! ### the law's end -/
/-- the law's promise: of a script of at most 63 ints it says True -/
def spLaw (K : PySem.W.Frag) : Sp := fun vs H Q _ => ∃ (a : Addr) (ns : List Int), vs = [.ref a] ∧ SqL K H a (ns.map V.int) ∧ ns.length ≤ 63 ∧ ∀ H', Q (.bl true) H'
theorem ints_dp {K : PySem.W.Frag} {H : Hp} : ∀ ns : List Int, DpAll K H (ns.map V.int) (ns.map PyData.int)
  | [] => .nil
  | n :: ns => .cons (.int n) (ints_dp ns)
theorem law_end {P : Program} {w : World} {K : PySem.W.Frag} {mg : Str → Option Value} {base : Heap} {k : Nat} {f : Addr} {fd : FuncData} {m : List D → R Cell} (F : FnOk P w K mg base (L2.CX P w) k f fd ["script"] (spD K mg 1 m)) (h : ∀ ns : List Int, ns.length ≤ 63 → m [.list (ns.map PyData.int)] = .ok (.d (.bool true))) :
    FnOk P w K mg base (L2.CX P w) k f fd ["script"] (spLaw K) := F.imp fun vs H Q E ⟨a, ns, e, hs, hl, q⟩ => by
  subst e
  refine ⟨fun _ => False, [.list (ns.map PyData.int)], fun _ z => z.elim, rfl, .cons (.lst (SqL_mono (hide_no fun _ z => z) hs) (ints_dp ns)) .nil, ?_⟩
  rw [h ns hl]
  intro v H' os _ _ _ r
  rw [Dp_bool r.2]
  exact q H'
theorem cx_never {P : Program} {w : World} {H : Hp} {s s' : Shared} {e : Value} (h : L2.CX P w [] H s (fun _ _ _ => False) e s') : False := by
  obtain ⟨_, _, _, _, _, _, _, _, _, _, _, _, z⟩ := h
  exact z
end DL
/-! ## DL, part 12: lists that are lent for changing, suites of handlers -/
namespace DL
open PySem PySem.Spec PyProof.Rows L2
section
variable {K : PySem.W.Frag} {H0 H H' : Hp} {O0 : Addr → Prop} {own : Nat → List Addr} {σ : L2.St} {env : Env}
/-- the object at al of slot i has changed: the slot's new cell c -/
theorem own_upd2 {i : Nat} {al : Addr} {c : Cell} (E : EnvOk K H0 H O0 own σ env) (hi : i < env.length) (e1 : σ[i]? = some (some (.ref al))) (eo : own i = [al]) (k : ∀ b o, b ≠ al → H b = some o → H' b = some o) (te : ∃ o, H' al = some o)
    (r : Same (hide H (tO O0 own)) (hide H' (tO O0 own)) → SlotR K H' (tO O0 own) (own i) c (some (some (.ref al)))) : EnvOk K H0 H' O0 own σ (env.set i c) ∧ Same (hide H (tO O0 own)) (hide H' (tO O0 own)) := by
  have mem : al ∈ own i := by rw [eo]; exact List.mem_cons_self
  have h0 : Same H0 H' := fun a o e => k a o (fun z => by
    rw [z, E.fresh i al mem] at e
    cases e) (E.same a o e)
  have n1 : ∀ a o, H a = some o → ¬ tO O0 own a → H' a = some o := fun a o e n => k a o (fun z => n (by rw [z]; exact .inr ⟨i, mem⟩)) e
  have eqo : ownSet own i (own i) = own := by
    funext j
    unfold ownSet
    by_cases hj : j = i
    · rw [if_pos hj, hj]
    · rw [if_neg hj]
  have sm : Same (hide H (tO O0 own)) (hide H' (tO O0 own)) := fun a o e => by
    obtain ⟨n, e⟩ := hide_eq.mp e
    exact hide_eq.mpr ⟨n, n1 a o e n⟩
  have w := E.set (c := c) (x := some (.ref al)) (os := own i) (H' := H') hi h0 n1 (fun j a o hj ha e => k a o (fun z => E.dj i j al (Ne.symm hj) mem (by rw [← z]; exact ha)) e) (fun a ha => by
      rw [eo] at ha
      rw [List.mem_singleton.mp ha]
      exact te) (fun a ha => E.fresh i a ha) (fun a ha => .inr ha) (E.nd i) (by
        rw [eqo]
        exact r sm)
  rw [eqo] at w
  have e3 : σ.set i (some (.ref al)) = σ := set_self e1
  rw [e3] at w
  exact ⟨w, sm⟩
def parAt (i : Nat) (en : Env) (f : Addr → List D → Out) : Out := match en[i]? with
  | some (.par a xs) => f a xs
  | _ => .no
theorem parAt_some {mg : Str → Option Value} {W : WX} {O : Addr → Prop} {i : Nat} {en : Env} {f : Addr → List D → Out} {D : Ends} (h : OutH K mg W H0 O0 H O D (parAt i en f)) : ∃ a xs, en[i]? = some (.par a xs) ∧ OutH K mg W H0 O0 H O D (f a xs) := by
  unfold parAt at h
  split at h
  · rename_i a xs e
    exact ⟨a, xs, e, h⟩
  · exact h.elim
theorem par_at {i : Nat} {al : Addr} {xs : List D} (E : EnvOk K H0 H O0 own σ env) (q : env[i]? = some (.par al xs)) : ∃ vs, σ[i]? = some (some (.ref al)) ∧ own i = [al] ∧ H al = some (.lst vs) ∧ DpAll K (hide H (tO O0 own)) vs xs := by
  obtain ⟨v, e1, vs, rfl, eo, e2, e3⟩ := E.get q (fun z => by cases z)
  exact ⟨vs, e1, eo, e2, e3⟩
end
section
variable {X : Cx} {W : WX} {tg e l a b c : Expr} {fa fb fc : Env → R Cell} {ga : Env → R (List D)} {ta : Env → R Bool} {g g1 g2 : Env → Out} {pos p p' : Pos} {st : Stmt} {sts sts2 : List Stmt}
/-- xs.append(e), xs lent in slot i -/
theorem ds_appP (i : Nat) {x : Str} {np ap : Pos} (pe : PE X (.Call (.Attribute (.Name x np) "append" ap) [a] [] pos) (tBM X.K "list" rAppend (tVar i) (tCons (teD X.K X.mg W fa) tNil)))
    (hs : swapsWith (.Call (.Attribute (.Name x np) "append" ap) [a] [] pos) none p.line X.env = pure false := by rfl) :
    PS X (.Expr (.Call (.Attribute (.Name x np) "append" ap) [a] [] pos) p) (tsD X.K X.mg W fun en => parAt i en fun al xs => ((fa en).bind asD).into en fun d => if xs.length < 16777216 then .nx (en.set i (.par al (xs ++ [d]))) else .no) := PS.imp (ps_expr pe hs) fun D σ H ⟨H0, O0, own, env, E, h⟩ => by
  obtain ⟨al, xs, q, h⟩ := parAt_some h
  obtain ⟨vs, e1, eo, e2, e3⟩ := par_at E q
  refine ⟨.ref al, e1, .inl ⟨rfl, vs, SqL.of e2⟩, H0, O0, own, env, E, ?_⟩
  cases q2 : fa env with
  | no => simp only [q2, R.bind_no, R.into_no] at h; exact h
  | ex k fs => simp only [q2, R.bind_ex, R.into_ex] at h; exact into_ex E h
  | ok c =>
    simp only [q2, R.bind_ok] at h
    intro v H' os s fr nd r
    cases q3 : asD c with
    | no => simp only [q3, R.into_no] at h; exact h.elim
    | ex k fs => exact (asD_ex q3).elim
    | ok d =>
      simp only [q3, R.into_ok] at h
      split at h
      · rename_i hl
        have hd := dat_at E fr r q3
        obtain ⟨E', s'⟩ := own_upd2 (E.mono s) (H' := upd H' al (.lst (vs ++ [v]))) (c := .par al (xs ++ [d])) (List.getElem?_eq_some_iff.mp q).1 e1 eo (fun b o n e => by rw [upd_ne n]; exact e) ⟨_, upd_same⟩ (fun sm => ⟨.ref al, rfl, _, rfl, eo, upd_same, DpAll_mono sm _ _ (DpAll_append (DpAll_mono (same_h s) _ _ e3) (.cons hd .nil))⟩)
        exact ⟨al, vs, v, rfl, rfl, s _ _ e2, by rw [DpAll_len e3, sizeLine_eq]; exact hl, h _ _ own E' ((same_h s).trans s')⟩
      · exact h.elim
/-- xs[k] = e, xs lent in slot i -/
theorem ds_setIP (i : Nat) {sp : Pos} {o : Expr} (pg : PG X (.Subscript o b sp) (gSub (tVar i) (teD X.K X.mg W fb) rSetL)) (ha : PE X a (teD X.K X.mg W fa)) (hs : swapsWithSole [.Subscript o b sp] a pos.line X.env = pure false := by rfl) (hw : swappedStores [.Subscript o b sp] a X.env = pure none := by rfl)
    (h1 : (assignEach [.Subscript o b sp] X.env).map (·.2) = [assign (.Subscript o b sp) X.env] := by rfl) :
    PS X (.Assign [.Subscript o b sp] a pos) (tsD X.K X.mg W fun en => ((fa en).bind asD).into en fun d => parAt i en fun al xs => ((fb en).bind cellI).into en fun k => match setAt xs k d with | some ys => .nx (en.set i (.par al ys)) | none => .no) :=
  PS.imp (ps_asg ha pg hs hw h1) fun D σ H ⟨H0, O0, own, env, E, h⟩ => by
  refine ⟨H0, O0, own, env, E, ?_⟩
  cases q : fa env with
  | no => simp only [q, R.bind_no, R.into_no] at h; exact h
  | ex k fs => simp only [q, R.bind_ex, R.into_ex] at h; exact into_ex E h
  | ok c =>
    simp only [q, R.bind_ok] at h
    intro v H' os s fr nd r
    cases q3 : asD c with
    | no => simp only [q3, R.into_no] at h; exact h.elim
    | ex k fs => exact (asD_ex q3).elim
    | ok d =>
      simp only [q3, R.into_ok] at h
      have hd := dat_at E fr r q3
      obtain ⟨al, xs, q4, h⟩ := parAt_some h
      obtain ⟨vs, e1, eo, e2, e3⟩ := par_at E q4
      refine ⟨.ref al, e1, H0, O0, own, env, E.mono s, ?_⟩
      cases q2 : fb env with
      | no => simp only [q2, R.bind_no, R.into_no] at h; exact h
      | ex k fs => simp only [q2, R.bind_ex, R.into_ex] at h; exact into_ex (E.mono s) (OutH.mono (same_h s) h)
      | ok c2 =>
        simp only [q2, R.bind_ok] at h
        intro u H2 os2 s2 fr2 nd2 r2
        cases q5 : cellI c2 with
        | no => simp only [q5, R.into_no] at h; exact h.elim
        | ex k fs => exact (cellI_ex q5).elim
        | ok k =>
          simp only [q5, R.into_ok] at h
          have eu := cellI_ok q5 r2
          subst eu
          unfold setAt at h
          cases q6 : ixN xs.length k with
          | none =>
            rw [q6] at h
            exact h.elim
          | some j =>
            rw [q6] at h
            have h : OutH X.K X.mg W H0 O0 H (tO O0 own) D (.nx (env.set i (.par al (xs.set j d)))) := h
            have ss := s.trans s2
            obtain ⟨E', s'⟩ := own_upd2 (E.mono ss) (H' := upd H2 al (.lst (vs.set j v))) (c := .par al (xs.set j d)) (List.getElem?_eq_some_iff.mp q4).1 e1 eo (fun b o n e => by rw [upd_ne n]; exact e) ⟨_, upd_same⟩ (fun sm => ⟨.ref al, rfl, _, rfl, eo, upd_same, DpAll_mono sm _ _ (DpAll_set (Dp_mono (same_h s2) _ _ hd) j (DpAll_mono (same_h ss) _ _ e3))⟩)
            exact ⟨al, vs, k, j, rfl, rfl, ss _ _ e2, by rw [DpAll_len e3]; exact q6, h _ _ own E' ((same_h ss).trans s')⟩
/-! ### a def that changes its first argument, a list, and returns nothing -/
def spM (K : PySem.W.Frag) (n : Nat) (m : Addr → List D → List D → R (List D)) : Sp := fun vs H Q _ => ∃ (O : Addr → Prop) (al : Addr) (us vs' : List V) (xs ds : List D), vs = .ref al :: vs' ∧ O al ∧ (∀ b, O b → ∃ o, H b = some o) ∧ H al = some (.lst us) ∧ DpAll K (hide H O) us xs ∧ ds.length + 1 = n ∧ DpAll K (hide H O) vs' ds ∧
  match m al xs ds with
  | .ok ys => ∀ H' us', (∀ b o, b ≠ al → H b = some o → H' b = some o) → H' al = some (.lst us') → DpAll K (hide H' O) us' ys → Q .non H'
  | _ => False
def endM (al : Addr) (o : Out) : R (List D) := match o with
  | .nx (.par b ys :: _) => if b = al then .ok ys else .no
  | _ => .no
/-- a def of n parameters, N slots, its body g -/
def runM (N n : Nat) (g : Env → Out) (al : Addr) (xs ds : List D) : R (List D) := if ds.length + 1 = n then endM al (g (.par al xs :: startD (N - 1) ds)) else .no
theorem runM_no {N n : Nat} {g : Env → Out} : ∀ (al : Addr) (xs ds : List D), ds.length + 1 ≠ n → runM N n g al xs ds = .no := fun al xs ds h => if_neg h
/-- a body that may end with a bare return -/
def tsE (K : PySem.W.Frag) (mg : Str → Option Value) (W : WX) (g : Env → Out) : TS := fun D σ H => (∀ σ' H', D.nx σ' H' → D.rt .non H') ∧ tsD K mg W g D σ H
theorem dE (h : PSs X sts (tsD X.K X.mg W g)) : PSs X sts (tsE X.K X.mg W g) := PSs.imp h fun D σ H q => q.2
theorem dE_ifret (hc : PT X c (ttD X.K X.mg W ta)) (h2 : PSs X sts (tsE X.K X.mg W g)) : PSs X (.If c [.Return none p] [] pos :: sts) (tsE X.K X.mg W fun en => (ta en).into en fun b => if b = true then .nx en else g en) :=
  PSs.imp (pss_cons (ps_if hc (pss_one ps_retN) pss_nil) h2) fun D σ H ⟨z, H0, O0, own, env, E, h⟩ => by
  refine ⟨H0, O0, own, env, E, ?_⟩
  cases q : ta env with
  | no => simp only [q, R.into_no] at h; exact h
  | ex k fs => simp only [q, R.into_ex] at h; exact into_ex E h
  | ok b =>
    simp only [q, R.into_ok] at h
    intro H' s
    cases b with
    | true =>
      rw [if_pos rfl] at h
      rw [if_pos rfl]
      exact z σ H' (h σ H' own (E.mono s) (same_h s))
    | false =>
      rw [if_neg Bool.false_ne_true] at h
      rw [if_neg Bool.false_ne_true]
      exact ⟨z, H0, O0, own, env, E.mono s, OutH.mono (same_h s) h⟩
end
def own1 (al : Addr) : Nat → List Addr := fun j => if j = 0 then [al] else []
theorem own1_zero {al : Addr} : own1 al 0 = [al] := if_pos rfl
theorem own1_ne {al : Addr} {j : Nat} (h : j ≠ 0) : own1 al j = [] := if_neg h
theorem own1_mem {al a : Addr} {j : Nat} (h : a ∈ own1 al j) : j = 0 ∧ a = al := by
  by_cases hj : j = 0
  · rw [hj, own1_zero] at h
    exact ⟨hj, List.mem_singleton.mp h⟩
  · rw [own1_ne hj] at h
    cases h
def less1 (H : Hp) (al : Addr) : Hp := fun b => if b = al then none else H b
theorem less1_same {H : Hp} {al : Addr} : less1 H al al = none := if_pos rfl
theorem less1_ne {H : Hp} {al b : Addr} (h : b ≠ al) : less1 H al b = H b := if_neg h
def but1 (O : Addr → Prop) (al : Addr) : Addr → Prop := fun b => O b ∧ b ≠ al
theorem but1_all {O : Addr → Prop} {al : Addr} (ha : O al) : tO (but1 O al) (own1 al) = O := by
  funext a
  refine propext ⟨fun z => ?_, fun z => ?_⟩
  · rcases z with z | ⟨j, z⟩
    · exact z.1
    · rw [(own1_mem z).2]
      exact ha
  · by_cases h : a = al
    · exact .inr ⟨0, by rw [own1_zero, h]; exact List.mem_cons_self⟩
    · exact .inl ⟨z, h⟩
theorem startM_ok {K : PySem.W.Frag} {H : Hp} {O : Addr → Prop} {al : Addr} {us vs : List V} {xs ds : List D} {N : List Str} (hN : 0 < N.length) (hd : ds.length + 1 ≤ N.length) (ha : O al) (hO : ∀ a, O a → ∃ o, H a = some o) (e : H al = some (.lst us)) (r0 : DpAll K (hide H O) us xs) (r : DpAll K (hide H O) vs ds) :
    EnvOk K (less1 H al) H (but1 O al) (own1 al) (L2.start N (.ref al :: vs)) (.par al xs :: startD (N.length - 1) ds) := by
  have hl := DpAll_len r
  refine ⟨fun b o q => ?_, ?_, fun i c q => ?_, fun i a h => ?_, fun i => ?_, fun i j a hij h1 h2 => ?_, fun i a h => ?_, fun a h => ?_⟩
  · by_cases hb : b = al
    · rw [hb, less1_same] at q; cases q
    · rw [less1_ne hb] at q; exact q
  · unfold L2.start startD
    simp [hl]
    omega
  · rw [but1_all ha]
    cases i with
    | zero =>
      cases q
      exact ⟨.ref al, rfl, us, rfl, own1_zero, e, r0⟩
    | succ i =>
      rw [own1_ne (Nat.succ_ne_zero i)]
      rw [List.getElem?_cons_succ] at q
      unfold startD at q
      unfold L2.start
      by_cases hi : i < ds.length
      · rw [List.getElem?_append_left (by simpa using hi), List.getElem?_map] at q
        rw [List.getElem?_append_left (by simpa [hl] using hi), List.getElem?_map, List.getElem?_cons_succ]
        rw [List.getElem?_eq_getElem hi] at q
        cases q
        obtain ⟨v, e1, e2⟩ := DpAll_get r (List.getElem?_eq_getElem hi)
        exact ⟨v, by rw [e1]; rfl, rfl, e2⟩
      · rw [List.getElem?_append_right (by simpa using hi)] at q
        rw [List.getElem?_replicate] at q
        split at q
        · cases q
          exact trivial
        · cases q
  · rw [(own1_mem h).2]
    exact ⟨_, e⟩
  · by_cases hj : i = 0
    · rw [hj, own1_zero]; exact List.nodup_cons.mpr ⟨List.not_mem_nil, List.nodup_nil⟩
    · rw [own1_ne hj]; exact List.nodup_nil
  · exact hij ((own1_mem h1).1.trans (own1_mem h2).1.symm)
  · rw [(own1_mem h).2]
    exact less1_same
  · obtain ⟨o, q⟩ := hO a h.1
    exact ⟨o, by rw [less1_ne h.2]; exact q⟩
theorem fnM {P : Program} {w : World} {mg : Str → Option Value} {base : Heap} {K : PySem.W.Frag} {x qual : Str} {fst : Stmt} {f : Addr} {fd : FuncData} {N ps : List Str} {k : Nat} {gb : Env → Out} (F : Fun K x qual fst f fd) (S : FnScope N ps (defScope fst)) (hN : 0 < N.length) (hp : ps.length ≤ N.length)
    (hb : ∀ (cdv : Value) (A : Around) (outer : List PySem.Env) (s : Shared) (H : Hp) (E : XK), Room k (A.deeper (envOfC qual (defScope fst) s.heap.objs.size f cdv)) →
      PSs (cxOf (L2.CX P w) P w K mg base N qual (defScope fst) f cdv A outer s H E) (defBody fst) (tsE K mg (fun cls d _ H => E cls d H) gb)) :
    FnOk P w K mg base (L2.CX P w) (k + 1) f fd ps (spM K ps.length (runM N.length ps.length gb)) := by
  refine F.okX S (fun vs H Q E h => ?_) (fun cdv A outer s H vs Q E hr h => ⟨_, hb cdv A outer s H E hr, ?_⟩)
  · obtain ⟨O, al, us, vs', xs, ds, rfl, _, _, _, _, hl, r, _⟩ := h
    rw [List.length_cons, DpAll_len r, hl]
  · obtain ⟨O, al, us, vs', xs, ds, rfl, ha, hO, e, r0, hl, r, h⟩ := h
    refine ⟨fun _ _ q => q, _, _, _, _, startM_ok hN (by rw [hl]; exact hp) ha hO e r0 r, ?_⟩
    unfold runM at h
    rw [if_pos hl] at h
    cases q : gb (.par al xs :: startD (N.length - 1) ds) with
    | no => rw [q] at h; exact h
    | bk e => rw [q] at h; exact h.elim
    | ct e => rw [q] at h; exact h.elim
    | rt c => rw [q] at h; exact h.elim
    | ex k fs e => rw [q] at h; exact h.elim
    | nx en =>
      rw [q] at h
      cases en with
      | nil => exact h.elim
      | cons c en =>
        cases c with
        | par b ys =>
          unfold endM at h
          by_cases hb : b = al
          · subst hb
            have h : ∀ H' us', (∀ c o, c ≠ b → H c = some o → H' c = some o) → H' b = some (.lst us') → DpAll K (hide H' O) us' ys → Q .non H' := by
              simpa using h
            intro σ' H' own' E' s'
            obtain ⟨v, e1, us', rfl, e2, e3, e4⟩ := E'.cell 0 _ rfl
            refine h H' us' (fun c o n q => E'.same c o (by rw [less1_ne n]; exact q)) e3 (DpAll_mono (hide_same (Same.refl H') fun c o _ z => ?_) _ _ e4)
            by_cases hc : c = b
            · exact .inr ⟨0, by rw [e2, hc]; exact List.mem_cons_self⟩
            · exact .inl ⟨z, hc⟩
          · simp [hb] at h
        | _ => exact h.elim
end DL
/-! ## DL, part 13: calls that change a list, handlers with suites -/
namespace DL
open PySem PySem.Spec PyProof.Rows L2
open Classical in
/-- what is told whatever the addresses are -/
noncomputable def allR {α : Type} (F : Addr → R α) : R α := if h : ∃ r, ∀ a, F a = r then h.choose else .no
theorem allR_eq {α : Type} {F : Addr → R α} {r : R α} (h : ∀ a, F a = r) : allR F = r := by
  have e : ∃ r, ∀ a, F a = r := ⟨r, h⟩
  unfold allR
  rw [dif_pos e, ← e.choose_spec 0, h 0]
theorem allR_at {α : Type} {F : Addr → R α} {r : R α} (h : allR F = r) (n : r ≠ .no) (a : Addr) : F a = r := by
  unfold allR at h
  split at h
  · rename_i e
    rw [e.choose_spec a, h]
  · exact absurd h.symm n
open Classical in
noncomputable def allO (F : Addr → Addr → Out) : Out := if h : ∃ r, ∀ a d, F a d = r then h.choose else .no
theorem allO_eq {F : Addr → Addr → Out} {r : Out} (h : ∀ a d, F a d = r) : allO F = r := by
  have e : ∃ r, ∀ a d, F a d = r := ⟨r, h⟩
  unfold allO
  rw [dif_pos e, ← e.choose_spec 0 0, h 0 0]
theorem allO_at {F : Addr → Addr → Out} (n : allO F ≠ .no) (a d : Addr) : F a d = allO F := by
  unfold allO at n ⊢
  split
  · rename_i e
    exact e.choose_spec a d
  · rename_i e
    rw [dif_neg e] at n
    exact absurd rfl n
section
variable {X : Cx} {W : WX} {e a b c : Expr} {es : List Expr} {fa : Env → R Cell} {ga : Env → R (List D)} {g : Env → Out} {pos p : Pos} {x f : Str} {st : Stmt} {k n : Nat} {ff : Addr} {fd : FuncData} {ps : List Str} {m : Addr → List D → List D → R (List D)}
/-- x(xs, ..), a call that changes the list in slot i -/
theorem ds_callM (i : Nat) {s : Str} {np ep : Pos} (F : FnOk X.prog X.w X.K X.mg X.base (L2.CX X.prog X.w) k ff fd ps (spM X.K n m)) (hr : Room k X.A) (tk : Takes X W) (hm : X.mg x = some (.ref ff)) (hk : PySem.W.keepIn X.K (.ref ff) = true) (hb : Binds X.K fd ps [])
    (hv : PE X (.Name s np) (tVar i)) (ha : PA X es (taD X.K X.mg W ga)) (hg : Gl X x := by rfl)
    (hdb : (x == ("__debug__" : Str)) = false := by decide) (he : starEach (.Name s np :: es) X.env = (false, eval (.Name s np) X.env) :: starEach es X.env := by rfl) (hpl : (backTo pos (starEach es X.env)).any (·.1) = false := by rfl) (hn : ∀ al xs ds, ds.length + 1 ≠ n → m al xs ds = .no := by exact runM_no)
    (hs : swapsWith (.Call (.Name x p) (.Name s np :: es) [] pos) none ep.line X.env = pure false := by rfl) :
    PS X (.Expr (.Call (.Name x p) (.Name s np :: es) [] pos) ep) (tsD X.K X.mg W fun en => ownAt i en fun xs => (ga en).into en fun ds => (allR fun al => m al xs ds).quiet.into en fun ys => .nx (en.set i (.own ys))) :=
  PS.imp (ps_expr (pe_callS F hr hg hm hk hb (fun σ => passAt tk σ) (pa_cons hv ha he) hdb he hpl) hs) fun D σ H ⟨H0, O0, own, env, E, h⟩ => by
  obtain ⟨xs, q, h⟩ := ownAt_some h
  obtain ⟨al, vs, e1, eo, e2, e3⟩ := own_at E q
  refine ⟨.ref al, e1, H0, O0, own, env, E, ?_⟩
  cases q2 : ga env with
  | no => simp only [q2, R.into_no] at h; exact h
  | ex k fs => simp only [q2, R.into_ex] at h; exact into_ex E h
  | ok ds =>
    simp only [q2, R.into_ok] at h
    intro vs' H1 s1 r1
    cases q3 : allR fun al => m al xs ds with
    | no => rw [q3] at h; exact h.elim
    | ex k fs => rw [q3] at h; exact h.elim
    | ok ys =>
      rw [q3] at h
      have q4 : m al xs ds = .ok ys := allR_at q3 (by intro z; cases z) al
      have hl : ds.length + 1 = n := by
        by_cases z : ds.length + 1 = n
        · exact z
        · rw [hn al xs ds z] at q4
          cases q4
      refine ⟨tO O0 own, al, vs, vs', xs, ds, rfl, .inr ⟨i, by rw [eo]; exact List.mem_cons_self⟩, (E.mono s1).thereO, s1 _ _ e2, DpAll_mono (same_h s1) _ _ e3, hl, r1, ?_⟩
      rw [q4]
      intro H' us' kk te r
      obtain ⟨E', s'⟩ := own_upd2 (E.mono s1) (H' := H') (c := .own ys) (List.getElem?_eq_some_iff.mp q).1 e1 eo kk ⟨_, te⟩ (fun _ => ⟨.ref al, rfl, al, us', rfl, eo, te, r⟩)
      exact h σ H' own E' ((same_h s1).trans s')
/-- e.f of the exception that a suite has caught -/
def excD (i : Nat) (f : Str) (a d : Addr) (en : Env) : R Cell := match en[i]? with
  | some (.exc a' d' g y) => if a' = a ∧ d' = d ∧ g = f then .ok (.d y) else .no
  | _ => .no
/-- behind a suite its name is gone -/
def gone (i : Nat) : Out → Out
  | .nx e => .nx (e.set i .un)
  | .bk e => .bk (e.set i .un)
  | .ct e => .ct (e.set i .un)
  | .rt c => .rt c
  | _ => .no
/-- try: body / except X as e: suite -/
noncomputable def tryS (i : Nat) (x f : Str) (o : Out) (gs : Addr → Addr → Env → Out) : Out := match o with
  | .ex k fs e => if k = x ∧ i < e.length then (match fs with
      | [(g, y)] => if g = f then allO (fun a d => gone i (gs a d (e.set i (.exc a d f y)))) else .no
      | _ => .no) else .no
  | .rt c => .rt c
  | .nx e => .nx e
  | _ => .no
theorem de_exc {i : Nat} {n : Str} {C a d : Addr} {oe : Obj} {pn : List (Addr × Obj)} {np : Pos} (TX : XfC X.K C) (hno : PySem.W.findIn X.K (.ref C) f = some none) (hz : Zc (.ref C) (some d) oe) (hd : ∃ vs, oe.data = .fields vs)
    (hi : X.N[i]? = some n := by rfl) (hln : Vis X.env.scope n := by first | exact Or.inl rfl | exact Or.inr (Or.inl rfl) | exact Or.inr (Or.inr rfl)) (hdn : (n == ("__debug__" : Str)) = false := by decide) (hcn : (n == ("__classdict__" : Str)) = false := by decide)
    (hat : attributeBase (.Name n np) f X.env (eval (.Name n np) X.env) = eval (.Name n np) X.env := by rfl) :
    PE (X.suite a ((a, oe) :: pn)) (.Attribute (.Name n np) f pos) (teD X.K X.mg W (excD i f a d)) := PE.imp (pe_xf (C := C) TX hno hz hd (pe_var (i := i) hi hln hdn hcn) hat) fun σ H Q ⟨H0, O0, own, env, E, h⟩ => by
  unfold excD at h
  split at h
  · rename_i a' d' g y q
    split at h
    · rename_i hh
      obtain ⟨rfl, rfl, rfl⟩ := hh
      obtain ⟨v, e1, z, rfl, e2, e3, e4⟩ := E.get q (fun z => by cases z)
      refine ⟨.ref a', e1, rfl, rfl, d', [(g, z)], z, rfl, (hide_eq.mp e3).2, by simp [List.lookup], ?_⟩
      exact h z H [] (Same.refl H) (fun a ha => by cases ha) List.nodup_nil ⟨rfl, Dp_mono (hide_same (Same.refl H) fun a o _ z => by
        rcases z with z | z
        · exact z
        · cases z) _ _ e4⟩
    · exact h.elim
  · exact h.elim
end
section
variable {X : Cx} {W : WX} {g : Env → Out} {pos p : Pos} {x f : Str} {st : Stmt}
theorem EnvOk.exc {K : PySem.W.Frag} {H0 H : Hp} {O0 : Addr → Prop} {own : Nat → List Addr} {σ : L2.St} {env : Env} {i : Nat} {a d : Addr} {y : V} {z : D} (E : EnvOk K H0 H O0 own σ env) (hi : i < env.length) (e : hide H (tO O0 own) d = some (.xd [(f, y)])) (r : Dp K (hide H (tO O0 own)) y z) :
    EnvOk K H0 H O0 (ownSet own i []) (σ.set i (some (.ref a))) (env.set i (.exc a d f z)) ∧ Same (hide H (tO O0 own)) (hide H (tO O0 (ownSet own i []))) := by
  have sm : Same (hide H (tO O0 own)) (hide H (tO O0 (ownSet own i []))) := hide_set (fun a o e _ => e) (fun a ha => by cases ha)
  exact ⟨E.set (c := .exc a d f z) (x := some (.ref a)) (os := []) hi E.same (fun _ _ e _ => e) (fun _ _ _ _ _ e => e) (fun a ha => by cases ha) (fun a ha => by cases ha) (fun a ha => by cases ha) List.nodup_nil ⟨.ref a, rfl, y, rfl, rfl, sm _ _ e, Dp_mono sm _ _ r⟩, sm⟩
theorem EnvOk.gone {K : PySem.W.Frag} {H0 H : Hp} {O0 : Addr → Prop} {own : Nat → List Addr} {σ : L2.St} {env : Env} {i : Nat} (E : EnvOk K H0 H O0 own σ env) :
    ∃ own', EnvOk K H0 H O0 own' (σ.set i none) (env.set i .un) ∧ Same (hide H (tO O0 own)) (hide H (tO O0 own')) := by
  by_cases hi : i < env.length
  · exact ⟨ownSet own i [], E.set (c := .un) (x := none) (os := []) hi E.same (fun _ _ e _ => e) (fun _ _ _ _ _ e => e) (fun a ha => by cases ha) (fun a ha => by cases ha) (fun a ha => by cases ha) List.nodup_nil trivial, hide_set (fun a o e _ => e) (fun a ha => by cases ha)⟩
  · have el := E.len
    rw [List.set_eq_of_length_le (by omega), List.set_eq_of_length_le (by omega)]
    exact ⟨own, E, Same.refl _⟩
theorem ds_tryS {i : Nat} {n : Str} {body suite : List Stmt} {b₀ : Stmt} {gs : Addr → Addr → Env → Out} {np hp2 p2 : Pos} (T : Exc1 X.K X.mg x f st) (hN : X.N.Nodup)
    (hb : ∀ (W : WX) (pn : List (Addr × Obj)) (xe : Value → Shared → Prop), Takes (X.tr pn xe) W → PassesOwn (model X.prog X.w) X.A X.env xe → PSs (X.tr pn xe) body (tsD X.K X.mg W g))
    (hsu : ∀ (C a d : Addr) (oe : Obj) (pn : List (Addr × Obj)), XfC X.K C → PySem.W.findIn X.K (.ref C) f = some none → Zc (.ref C) (some d) oe → (∃ vs, oe.data = .fields vs) → PSs (X.suite a ((a, oe) :: pn)) (b₀ :: suite) (tsD X.K X.mg (fun _ _ _ _ => False) (gs a d)))
    (hs : X.stack = X.env :: X.outer := by rfl) (hf : X.env.frame = some X.env.locals := by rfl) (hi : X.N[i]? = some n := by rfl) (hln : X.env.kindOf n = some .local := by rfl) (hg : Gl X x := by rfl) (hdb : (x == ("__debug__" : Str)) = false := by decide) :
    PS X (.Try body [.ExceptHandler (some (.Name x np)) (some n) (b₀ :: suite) hp2] [] [] p2) (tsD X.K X.mg W fun en => tryS i x f (g en) gs) := by
  obtain ⟨C, fI, fd, q, hm, TO, TX, hno, iC, tI, F, bI, te⟩ := T.ex
  refine PS.imp (ps_try_as (c := .ref C) (i := i) (Wout := fun _ _ _ _ => False) (ts := fun a cls d D σ H => cls = .ref C ∧ ∃ d', d = some d' ∧ tsD X.K X.mg (fun _ _ _ _ => False) (gs a d') D σ H) hs hf hN hi hln ⟨hg, hdb, .inl hm⟩ takes0 hb (fun a oe cls d pn hz hd => ⟨fun pins s σ H D I h => ?_⟩)) fun D σ H ⟨H0, O0, own, env, E, h⟩ => ?_
  · obtain ⟨rfl, d', rfl, h⟩ := h
    exact (hsu C a d' oe pn TX hno hz hd).run pins s σ H D I h
  · refine ⟨H0, O0, own, env, E, ?_⟩
    cases q2 : g env with
    | no => simp only [q2, tryS] at h; exact h
    | bk e => simp only [q2, tryS] at h; exact h.elim
    | ct e => simp only [q2, tryS] at h; exact h.elim
    | rt c => simp only [q2, tryS] at h; exact h
    | nx e => simp only [q2, tryS] at h; exact h
    | ex k fs e =>
      simp only [q2, tryS] at h
      split at h
      · rename_i ek
        obtain ⟨ek, hil⟩ := ek
        subst ek
        split at h
        · rename_i g' d'
          split at h
          · rename_i eg
            subst eg
            intro σ' H' own' cls dd E' s r
            obtain ⟨⟨C', hC, rfl⟩, r2⟩ := r
            have eC : C' = C := by
              rw [hm] at hC
              cases hC
              rfl
            subst eC
            rcases r2 with ⟨z, _⟩ | ⟨d2, vs, rfl, ed, r3⟩
            · cases z
            · cases vs with
              | nil => exact r3.elim
              | cons p0 vs =>
                cases vs with
                | cons _ _ => exact r3.2.2.elim
                | nil =>
                  obtain ⟨e1, e2, _⟩ := r3
                  obtain ⟨g1, v1⟩ := p0
                  have e1 : g1 = g' := e1
                  subst e1
                  refine ⟨true, te, fun _ al hal => ⟨rfl, d2, rfl, ?_⟩, fun z => by cases z⟩
                  obtain ⟨E2, sm⟩ := E'.exc (a := al) hil ed e2
                  refine ⟨H0, O0, _, _, E2, ?_⟩
                  have nn : allO (fun a d => DL.gone i (gs a d (e.set i (.exc a d g1 d')))) ≠ .no := fun z => by
                    rw [z] at h
                    exact h
                  rw [← allO_at nn al d2] at h
                  have h := OutH.mono (s.trans sm) h
                  cases q5 : gs al d2 (e.set i (.exc al d2 g1 d')) with
                  | no => rw [q5] at h; exact h
                  | ex k fs e => rw [q5] at h; exact h.elim
                  | rt c => rw [q5] at h; exact h
                  | nx e4 =>
                    rw [q5] at h
                    intro σ4 H4 own4 E4 s4
                    obtain ⟨own5, E5, s5⟩ := E4.gone (i := i)
                    exact h _ _ own5 E5 (s4.trans s5)
                  | bk e4 =>
                    rw [q5] at h
                    intro σ4 H4 own4 E4 s4
                    obtain ⟨own5, E5, s5⟩ := E4.gone (i := i)
                    exact h _ _ own5 E5 (s4.trans s5)
                  | ct e4 =>
                    rw [q5] at h
                    intro σ4 H4 own4 E4 s4
                    obtain ⟨own5, E5, s5⟩ := E4.gone (i := i)
                    exact h _ _ own5 E5 (s4.trans s5)
          · exact h.elim
        · exact h.elim
      · exact h.elim
end
end DL
/-! ## DL, part 14: texts -/
namespace DL
open PySem PySem.Spec PyProof.Rows L2
/-! ### what they answer -/
def strC (c : Cell) : R Cell := match c with
  | .d (.str s) => .ok (.d (.str s))
  | _ => .no
def strsD : List D → Option (List Str)
  | [] => some []
  | .str s :: r => (strsD r).map (s :: ·)
  | _ :: _ => none
def splitD (x y : Cell) : R Cell := match x, y with
  | .d (.str a), .d (.str b) => if (b.length == 0) = false ∧ a.length + 2 ≤ 16777216 then .ok (.own ((Txt.split a b).map .str)) else .no
  | _, _ => .no
def joinD (x y : Cell) : R Cell := match x with
  | .d (.str a) => match y.items with
    | some xs => match strsD xs with
      | some ys => if (ys.map (·.length)).sum + ys.length * a.length ≤ 16777216 then .ok (.d (.str (Txt.join a ys))) else .no
      | none => .no
    | none => .no
  | _ => .no
def stripD (x : Cell) : R Cell := match x with
  | .d (.str a) => if a.length ≤ 16777216 then .ok (.d (.str (Txt.strip a))) else .no
  | _ => .no
def findD (x y : Cell) : R Cell := match x, y with
  | .d (.str a), .d (.str b) => .ok (.d (.int (Txt.find a b)))
  | _, _ => .no
def strD (x : Cell) : R Cell := match x with
  | .d (.int i) => if i.natAbs.log2 < 1920 then .ok (.d (.str (toString i))) else .no
  | .d (.str a) => .ok (.d (.str a))
  | _ => .no
def intD (x : Cell) : R Cell := match x with
  | .d (.int i) => .ok (.d (.int i))
  | .d (.bool b) => .ok (.d (.int (if b then 1 else 0)))
  | .d (.str a) => match PySem.intText? a with
    | some n => if a.length ≤ 640 then .ok (.d (.int n)) else .no
    | none => .no
  | _ => .no
def inB (x y : Cell) : R Bool := match y.view with
  | some (.str j) => match x.view with
    | some (.str i) => .ok (!(Builtin.Str.occurrences j i 0 j.length 1).isEmpty)
    | _ => .no
  | some (.list ds) => match x.view with
    | some d => if SeqAt.shaped d = true ∧ SeqAt.shaped (.list ds) = true then .ok (ds.any fun z => PyData.eqv z d) else .no
    | none => .no
  | _ => .no
def inD (x y : Cell) : R Cell := (inB x y).bind fun b => .ok (.d (.bool b))
def notInD (x y : Cell) : R Cell := (inB x y).bind fun b => .ok (.d (.bool (!b)))
/-- text[lo:hi] -/
def cutT (x : Cell) (lo hi : Option Int) : R Cell := match x with
  | .d (.str s) => if s.length ≤ 16777216 then .ok (.d (.str (cutS s lo hi))) else .no
  | _ => .no
/-- its signs -/
def signsD (c : Cell) : R (List D) := match c with
  | .d (.str s) => .ok (s.cps.toList.map fun c => .str ⟨#[c]⟩)
  | _ => .no
section
variable {K : PySem.W.Frag}
theorem strsD_rel {H : Hp} : ∀ {xs : List D} {vs : List V} {ys : List Str}, DpAll K H vs xs → strsD xs = some ys → vs = ys.map V.str
  | [], _, _, .nil, e => by cases e; rfl
  | x :: xs, _, ys, .cons h1 h2, e => by
    cases x with
    | str s =>
      unfold strsD at e
      cases q : strsD xs with
      | none => rw [q] at e; cases e
      | some zs =>
        rw [q] at e
        cases e
        rw [strsD_rel h2 q, Dp_str h1]
        rfl
    | _ => cases e
theorem strs_dp {H : Hp} : ∀ ys : List Str, DpAll K H (ys.map V.str) (ys.map PyData.str)
  | [] => .nil
  | y :: ys => .cons (.str y) (strs_dp ys)
theorem op1_strip : Op1 K (fun x H Q => ∃ a, x = .str a ∧ ([] : List V) = [] ∧ a.length ≤ sizeLine ∧ Q (.str (Txt.strip a)) H) stripD := fun mg W O H σ c v Q hO h1 h => by
  unfold stripD at h
  split at h
  · have e := Dp_str (Peek_d h1)
    subst e
    split at h
    · rename_i hl
      exact ⟨_, rfl, rfl, by rw [sizeLine_eq]; exact hl, h.dat (.str _)⟩
    · exact h.elim
  · exact h.elim
theorem op2_split : Op2 K (fun x u H Q => ∃ a b, x = .str a ∧ [u] = [V.str b] ∧ (b.length == 0) = false ∧ a.length + 2 ≤ sizeLine ∧ rNewStrs (Txt.split a b) H Q) splitD := fun mg W O H σ c d v u Q hO h1 h2 h => by
  unfold splitD at h
  split at h
  · have e1 := Dp_str (Peek_d h1)
    have e2 := Dp_str (Peek_d h2)
    subst e1 e2
    split at h
    · rename_i hl
      exact ⟨_, _, rfl, rfl, hl.1, by rw [sizeLine_eq]; exact hl.2, h.newL (strs_dp _)⟩
    · exact h.elim
  · exact h.elim
theorem op2_join : Op2 K (fun x u H Q => ∃ a p, ∃ ys : List Str, x = .str a ∧ [u] = [V.ref p] ∧ (SqL K H p (ys.map V.str) ∨ SqT K H p (ys.map V.str)) ∧ (ys.map (·.length)).sum + ys.length * a.length ≤ 16777216 ∧ Q (.str (Txt.join a ys)) H) joinD := fun mg W O H σ c d v u Q hO h1 h2 h => by
  unfold joinD at h
  split at h
  · have e1 := Dp_str (Peek_d h1)
    subst e1
    split at h
    · rename_i xs ex
      split at h
      · rename_i ys ey
        split at h
        · rename_i hl
          obtain ⟨a, vs, rfl, s, q⟩ := Peek_items h2 ex
          have ev := strsD_rel q ey
          subst ev
          exact ⟨_, a, ys, rfl, rfl, s, hl, h.dat (.str _)⟩
        · exact h.elim
      · exact h.elim
    · exact h.elim
  · exact h.elim
theorem op2_find : Op2 K (fun x u H Q => ∃ a b, x = .str a ∧ [u] = [V.str b] ∧ Q (.int (Txt.find a b)) H) findD := fun mg W O H σ c d v u Q hO h1 h2 h => by
  unfold findD at h
  split at h
  · have e1 := Dp_str (Peek_d h1)
    have e2 := Dp_str (Peek_d h2)
    subst e1 e2
    exact ⟨_, _, rfl, rfl, h.dat (.int _)⟩
  · exact h.elim
theorem op1_str : Op1 K (fun x H Q => (∃ i, [x] = [V.int i] ∧ i.natAbs.log2 < 1920 ∧ Q (.str (toString i)) H) ∨ ∃ a, [x] = [V.str a] ∧ Q (.str a) H) strD := fun mg W O H σ c v Q hO h1 h => by
  unfold strD at h
  split at h
  · have e := Dp_int (Peek_d h1)
    subst e
    split at h
    · rename_i hl
      exact .inl ⟨_, rfl, hl, h.dat (.str _)⟩
    · exact h.elim
  · have e := Dp_str (Peek_d h1)
    subst e
    exact .inr ⟨_, rfl, h.dat (.str _)⟩
  · exact h.elim
theorem op1_int : Op1 K (fun x H Q => ((∃ i, [x] = [V.int i] ∧ Q (.int i) H) ∨ ∃ k, [x] = [V.bl k] ∧ Q (.int (if k then 1 else 0)) H) ∨ ∃ a n, [x] = [V.str a] ∧ PySem.intText? a = some n ∧ a.length ≤ 640 ∧ Q (.int n) H) intD := fun mg W O H σ c v Q hO h1 h => by
  unfold intD at h
  split at h
  · have e := Dp_int (Peek_d h1)
    subst e
    exact .inl (.inl ⟨_, rfl, h.dat (.int _)⟩)
  · have e := Dp_bool (Peek_d h1)
    subst e
    exact .inl (.inr ⟨_, rfl, h.dat (.int _)⟩)
  · have e := Dp_str (Peek_d h1)
    subst e
    split at h
    · rename_i n hn
      split at h
      · rename_i hl
        exact .inr ⟨_, n, rfl, hn, hl, h.dat (.int _)⟩
      · exact h.elim
    · exact h.elim
  · exact h.elim
theorem inB_ok {H : Hp} {O : Addr → Prop} {c d : Cell} {v u : V} {b : Bool} (h1 : PeekR K H O c v) (h2 : PeekR K H O d u) (h : inB c d = .ok b) :
    (∃ i j, v = .str i ∧ u = .str j ∧ b = !(Builtin.Str.occurrences j i 0 j.length 1).isEmpty) ∨ ∃ x ds, Dp K H v x ∧ Dp K H u (.list ds) ∧ SeqAt.shaped x = true ∧ SeqAt.shaped (.list ds) = true ∧ b = ds.any fun z => PyData.eqv z x := by
  unfold inB at h
  split at h
  · rename_i j ej
    split at h
    · rename_i i ei
      cases h
      exact .inl ⟨i, j, Dp_str (Peek_view h1 ei), Dp_str (Peek_view h2 ej), rfl⟩
    · cases h
  · rename_i ds ed
    split at h
    · rename_i x ex
      split at h
      · rename_i hs
        cases h
        exact .inr ⟨x, ds, Peek_view h1 ex, Peek_view h2 ed, hs.1, hs.2, rfl⟩
      · cases h
    · cases h
  · cases h
theorem inB_ex {c d : Cell} {k : Str} {fs : List (Str × D)} (h : inB c d = .ex k fs) : False := by
  unfold inB at h
  split at h
  · split at h <;> cases h
  · split at h
    · split at h <;> cases h
    · cases h
  · cases h
theorem op2_in : Op2 K (fun x y H Q => (∃ i j, x = .str i ∧ y = .str j ∧ Q (.bl (!(Builtin.Str.occurrences j i 0 j.length 1).isEmpty)) H) ∨ rInD K x y H Q) inD := fun mg W O H σ c d v u Q hO h1 h2 h => by
  unfold inD at h
  cases q : inB c d with
  | no => rw [q] at h; exact h.elim
  | ex k fs => exact (inB_ex q).elim
  | ok b =>
    rw [q] at h
    rcases inB_ok h1 h2 q with ⟨i, j, rfl, rfl, rfl⟩ | ⟨x, ds, hx, hd, sx, sd, rfl⟩
    · exact .inl ⟨i, j, rfl, rfl, h.dat (.bl _)⟩
    · exact .inr ⟨x, ds, hx, hd, sx, sd, h.dat (.bl _)⟩
theorem op2_notIn : Op2 K (fun x y H Q => (∃ i j, x = .str i ∧ y = .str j ∧ Q (.bl (!(!(Builtin.Str.occurrences j i 0 j.length 1).isEmpty))) H) ∨ rNotInD K x y H Q) notInD := fun mg W O H σ c d v u Q hO h1 h2 h => by
  unfold notInD at h
  cases q : inB c d with
  | no => rw [q] at h; exact h.elim
  | ex k fs => exact (inB_ex q).elim
  | ok b =>
    rw [q] at h
    rcases inB_ok h1 h2 q with ⟨i, j, rfl, rfl, rfl⟩ | ⟨x, ds, hx, hd, sx, sd, rfl⟩
    · exact .inl ⟨i, j, rfl, rfl, h.dat (.bl _)⟩
    · exact .inr ⟨x, ds, hx, hd, sx, sd, h.dat (.bl _)⟩
end
/-! ### the rules -/
section
variable {X : Cx} {W : WX} {tg e l a b c o : Expr} {fa fb fc : Env → R Cell} {pos p p2 : Pos} {lo hi : Option Expr} {fl fh : Env → R (Option Int)}
theorem opr_in (hu : X.A.units + 65 < cLine) : OpR X (compareOp .In) (fun x y H Q => (∃ i j, x = .str i ∧ y = .str j ∧ Q (.bl (!(Builtin.Str.occurrences j i 0 j.length 1).isEmpty)) H) ∨ rInD X.K x y H Q) := OpR.or2 op_in_str (op_inD hu)
theorem opr_notIn (hu : X.A.units + 65 < cLine) : OpR X (compareOp .NotIn) (fun x y H Q => (∃ i j, x = .str i ∧ y = .str j ∧ Q (.bl (!(!(Builtin.Str.occurrences j i 0 j.length 1).isEmpty))) H) ∨ rNotInD X.K x y H Q) := OpR.or2 op_notIn_str (op_notInD hu)
/-- a method of a text, no argument -/
theorem de_sm0 {r : V → List V → Hp → VK → Prop} {g : Cell → R Cell} (h : PE X e (tBM0 X.K "str" r (tpD X.K X.mg W fa))) (ho : Op1 X.K (fun v H Q => r v [] H Q) g) : PE X e (teD X.K X.mg W fun en => ((fa en).bind strC).bind g) := PE.imp h fun σ H Q ⟨H0, O0, own, env, E, h⟩ => by
  refine ⟨H0, O0, own, env, E, ?_⟩
  cases q : fa env with
  | no => simp only [q, R.bind_no] at h; exact h
  | ex k fs => simp only [q, R.bind_ex] at h; exact h
  | ok c =>
    simp only [q, R.bind_ok] at h
    intro v H1 s1 r1
    cases q2 : strC c with
    | no => simp only [q2, R.bind_no] at h; exact h.elim
    | ex k fs => exact absurd q2 (by unfold strC; split <;> (intro z; cases z))
    | ok c' =>
      simp only [q2, R.bind_ok] at h
      unfold strC at q2
      split at q2
      · rename_i z
        cases q2
        have ev := Dp_str (Peek_d r1)
        subst ev
        exact ⟨rfl, ho X.mg W _ H1 σ _ _ Q (E.mono s1).thereO r1 (Hand.mono s1 h)⟩
      · cases q2
/-- .., one argument -/
theorem de_sm1 {r : V → List V → Hp → VK → Prop} {g : Cell → Cell → R Cell} (h : PE X e (tBM X.K "str" r (tpD X.K X.mg W fa) (tCons (tpD X.K X.mg W fb) tNil))) (ho : Op2 X.K (fun v u H Q => r v [u] H Q) g) : PE X e (teD X.K X.mg W fun en => ((fa en).bind strC).bind fun x => (fb en).bind fun y => g x y) := PE.imp h fun σ H Q ⟨H0, O0, own, env, E, h⟩ => by
  refine ⟨H0, O0, own, env, E, ?_⟩
  cases q : fa env with
  | no => simp only [q, R.bind_no] at h; exact h
  | ex k fs => simp only [q, R.bind_ex] at h; exact h
  | ok c =>
    simp only [q, R.bind_ok] at h
    intro v H1 s1 r1
    cases q2 : strC c with
    | no => simp only [q2, R.bind_no] at h; exact h.elim
    | ex k fs => exact absurd q2 (by unfold strC; split <;> (intro z; cases z))
    | ok c' =>
      simp only [q2, R.bind_ok] at h
      unfold strC at q2
      split at q2
      · rename_i z
        cases q2
        have ev := Dp_str (Peek_d r1)
        subst ev
        refine ⟨rfl, H0, O0, own, env, E.mono s1, ?_⟩
        cases q3 : fb env with
        | no => simp only [q3, R.bind_no] at h; exact h
        | ex k fs => simp only [q3, R.bind_ex] at h; exact fun H' cls d s' w => h H' cls d (s1.trans s') w
        | ok d =>
          simp only [q3, R.bind_ok] at h
          intro u H2 s2 r2
          exact ho X.mg W _ H2 σ _ _ _ _ Q (E.mono (s1.trans s2)).thereO (PeekR_mono s2 (fun _ _ _ z => z) r1) r2 (Hand.mono (s1.trans s2) h)
      · cases q2
theorem de_strT (hm : X.mg "str" = none) (ha : PE X a (tpD X.K X.mg W fa)) (hg : Gl X "str" := by rfl)
    (he : starEach (a :: []) X.env = (false, eval a X.env) :: starEach [] X.env := by rfl) (hpl : (backTo pos (starEach [] X.env)).any (·.1) = false := by rfl) :
    PE X (.Call (.Name "str" p) [a] [] pos) (teD X.K X.mg W fun en => (fa en).bind strD) := de_t1 (CallR.or call_str_int SkE.call_str_str) hm (by decide +kernel) op1_str ha hg (by decide) (by decide) he hpl
theorem de_intT (hm : X.mg "int" = none) (ha : PE X a (tpD X.K X.mg W fa)) (hg : Gl X "int" := by rfl)
    (he : starEach (a :: []) X.env = (false, eval a X.env) :: starEach [] X.env := by rfl) (hpl : (backTo pos (starEach [] X.env)).any (·.1) = false := by rfl) :
    PE X (.Call (.Name "int" p) [a] [] pos) (teD X.K X.mg W fun en => (fa en).bind intD) := de_t1 (CallR.or call_int1 call_int_str) hm (by decide +kernel) op1_int ha hg (by decide) (by decide) he hpl
theorem de_cutT (ha : PE X a (tpD X.K X.mg W fa)) (hl : PO X lo (toD X.K X.mg W fl)) (hh : PO X hi (toD X.K X.mg W fh)) :
    PE X (.Subscript a (.Slice lo hi none p2) pos) (teD X.K X.mg W fun en => (fa en).bind fun x => (fl en).bind fun l => (fh en).bind fun u => cutT x l u) :=
  PE.imp (pe_slice sl_str ha hl hh) fun σ H Q ⟨H0, O0, own, env, E, h⟩ => by
  refine ⟨H0, O0, own, env, E, ?_⟩
  cases q : fa env with
  | no => simp only [q, R.bind_no] at h; exact h
  | ex k fs => simp only [q, R.bind_ex] at h; exact h
  | ok c =>
    simp only [q, R.bind_ok] at h
    intro v H1 s1 r1
    refine ⟨H0, O0, own, env, E.mono s1, ?_⟩
    cases q2 : fl env with
    | no => simp only [q2, R.bind_no] at h; exact h
    | ex k fs => simp only [q2, R.bind_ex] at h; exact fun H' cls d s' w => h H' cls d (s1.trans s') w
    | ok l =>
      simp only [q2, R.bind_ok] at h
      intro H2 s2
      refine ⟨H0, O0, own, env, E.mono (s1.trans s2), ?_⟩
      cases q3 : fh env with
      | no => simp only [q3, R.bind_no] at h; exact h
      | ex k fs => simp only [q3, R.bind_ex] at h; exact fun H' cls d s' w => h H' cls d ((s1.trans s2).trans s') w
      | ok u =>
        simp only [q3, R.bind_ok] at h
        intro H3 s3
        have s := (s1.trans s2).trans s3
        have h' := Hand.mono s h
        have r3 := PeekR_mono (s2.trans s3) (fun _ _ _ z => z) r1
        unfold cutT at h'
        split at h'
        · have ev := Dp_str (Peek_d r3)
          subst ev
          split at h'
          · rename_i hl
            exact ⟨_, rfl, by rw [sizeLine_eq]; exact hl, h'.dat (.str _)⟩
          · exact h'.elim
        · exact h'.elim
theorem itF_s {K : PySem.W.Frag} {H1 : Hp} {O : Addr → Prop} {x : Str} : ItF K H1 O (Its x) (x.cps.toList.map fun c => PyData.str ⟨#[c]⟩) := fun i H2 O2 k => by
  refine ⟨fun y e => ?_, fun e => ?_⟩
  · rw [List.getElem?_map, Option.map_eq_some_iff] at e
    obtain ⟨c, e1, rfl⟩ := e
    have hi : i < x.cps.size := by
      have := (List.getElem?_eq_some_iff.mp e1).1
      simpa using this
    refine ⟨hi, fun v H' y => ⟨y.1, ?_⟩⟩
    obtain ⟨_, c', e2, rfl⟩ := y
    have : x.cps[i]? = some c := by
      rw [← Array.getElem?_toList]
      exact e1
    rw [this] at e2
    cases e2
    exact .str _
  · show x.cps.size ≤ i
    simpa using e
/-- for c in a text -/
theorem df_str (ha : PE X l (teD X.K X.mg W fa)) : PI X tg l (wfD X.K X.mg W fun en => (fa en).bind signsD) := PI.imp (pi_str ha) fun σ H P ⟨H0, O0, own, env, E, h⟩ => by
  refine ⟨H0, O0, own, env, E, ?_⟩
  cases q : fa env with
  | no => simp only [q, R.bind_no] at h; exact h
  | ex k fs => simp only [q, R.bind_ex] at h; exact h
  | ok c =>
    simp only [q, R.bind_ok] at h
    intro v H1 os s1 fr nd r
    unfold signsD at h
    split at h
    · rename_i z
      have ev := Dp_str r.2
      subst ev
      exact ⟨z, rfl, h _ H1 s1 itF_s⟩
    · exact h.elim
def sliceA (x : Cell) (l u : Option Int) : R Cell := match x with
  | .d (.str s) => cutT (.d (.str s)) l u
  | c => sliceD c l u
def itemsA (x : Cell) : R (List D) := match x with
  | .d (.str s) => signsD (.d (.str s))
  | c => itemsR c
def isStr : Cell → Bool
  | .d (.str _) => true
  | _ => false
theorem sliceA_str {c : Cell} (h : isStr c = true) : sliceA c = cutT c := by
  unfold isStr at h
  split at h
  · rfl
  · cases h
theorem sliceA_not {c : Cell} (h : isStr c = false) : sliceA c = sliceD c := by
  cases c with
  | d x => cases x <;> first | rfl | cases h
  | _ => rfl
theorem itemsA_str {c : Cell} (h : isStr c = true) : itemsA c = signsD c := by
  unfold isStr at h
  split at h
  · rfl
  · cases h
theorem itemsA_not {c : Cell} (h : isStr c = false) : itemsA c = itemsR c := by
  cases c with
  | d x => cases x <;> first | rfl | cases h
  | _ => rfl
theorem de_sliceA (ha : PE X a (tpD X.K X.mg W fa)) (hl : PO X lo (toD X.K X.mg W fl)) (hh : PO X hi (toD X.K X.mg W fh)) :
    PE X (.Subscript a (.Slice lo hi none p2) pos) (teD X.K X.mg W fun en => (fa en).bind fun x => (fl en).bind fun l => (fh en).bind fun u => sliceA x l u) :=
  ⟨fun pins s σ H Q I ⟨H0, O0, own, env, E, h⟩ => by
  cases q : fa env with
  | no => simp only [q, R.bind_no] at h; exact h.elim
  | ex k fs =>
    simp only [q, R.bind_ex] at h
    refine (de_slice ha hl hh).run pins s σ H Q I ⟨H0, O0, own, env, E, ?_⟩
    simp only [q, R.bind_ex]
    exact h
  | ok c =>
    simp only [q, R.bind_ok] at h
    cases z : isStr c with
    | true =>
      rw [sliceA_str z] at h
      refine (de_cutT ha hl hh).run pins s σ H Q I ⟨H0, O0, own, env, E, ?_⟩
      simp only [q, R.bind_ok]
      exact h
    | false =>
      rw [sliceA_not z] at h
      refine (de_slice ha hl hh).run pins s σ H Q I ⟨H0, O0, own, env, E, ?_⟩
      simp only [q, R.bind_ok]
      exact h⟩
theorem df_any (ha : PE X l (teD X.K X.mg W fa)) : PI X tg l (wfD X.K X.mg W fun en => (fa en).bind itemsA) := ⟨fun pins s σ H P I ⟨H0, O0, own, env, E, h⟩ => by
  cases q : fa env with
  | no => simp only [q, R.bind_no] at h; exact h.elim
  | ex k fs =>
    simp only [q, R.bind_ex] at h
    refine (df_seq ha).run pins s σ H P I ⟨H0, O0, own, env, E, ?_⟩
    simp only [q, R.bind_ex]
    exact h
  | ok c =>
    simp only [q, R.bind_ok] at h
    cases z : isStr c with
    | true =>
      rw [itemsA_str z] at h
      refine (df_str ha).run pins s σ H P I ⟨H0, O0, own, env, E, ?_⟩
      simp only [q, R.bind_ok]
      exact h
    | false =>
      rw [itemsA_not z] at h
      refine (df_seq ha).run pins s σ H P I ⟨H0, O0, own, env, E, ?_⟩
      simp only [q, R.bind_ok]
      exact h⟩
theorem di_any (ha : PE X l (tpD X.K X.mg W fa)) : PI X tg l (wcD X.K X.mg W fun en => (fa en).bind itemsA) := ⟨fun pins s σ H P I ⟨H0, O0, own, env, E, h⟩ => by
  cases q : fa env with
  | no => simp only [q, R.bind_no] at h; exact h.elim
  | ex k fs =>
    simp only [q, R.bind_ex] at h
    refine (di_seq ha).run pins s σ H P I ⟨H0, O0, own, env, E, ?_⟩
    simp only [q, R.bind_ex]
    exact h
  | ok c =>
    simp only [q, R.bind_ok] at h
    cases z : isStr c with
    | true =>
      rw [itemsA_str z] at h
      refine (di_of (df_str (de_of ha))).run pins s σ H P I ⟨H0, O0, own, env, E, ?_⟩
      have e : (Cell.val c) = .ok c := by
        unfold isStr at z
        split at z
        · rfl
        · cases z
      simp only [q, R.bind_ok, e]
      exact h
    | false =>
      rw [itemsA_not z] at h
      refine (di_seq ha).run pins s σ H P I ⟨H0, O0, own, env, E, ?_⟩
      simp only [q, R.bind_ok]
      exact h⟩
theorem units65 {k : Nat} {A : Around} (hr : Room k A) : A.units + 65 < cLine := by have := hr.un; omega
end
end DL
/-! ## DL, part 10: how the plain functions reckon -/
namespace DL
open PySem
section
variable {e : Env} {c : Cell} {x y : D} {xs ys : List D} {xss : List (List D)} {i j : Int} {n : Nat} {s t : Str} {b : Bool}
@[simp] theorem getC_d : getC 0 (.d x :: e) = .ok (.d x) := rfl
@[simp] theorem getC_own : getC 0 (.own xs :: e) = .ok (.own xs) := rfl
@[simp] theorem getC_own2 : getC 0 (.own2 xss :: e) = .ok (.own2 xss) := rfl
@[simp] theorem getC_un : getC 0 (.un :: e) = .no := rfl
@[simp] theorem getC_succ : getC (n + 1) (c :: e) = getC n e := by
  unfold getC
  rw [List.getElem?_cons_succ]
@[simp] theorem val_d : Cell.val (.d x) = .ok (.d x) := rfl
@[simp] theorem varD_eq : varD n e = (getC n e).bind Cell.val := rfl
@[simp] theorem cstD_eq : cstD x e = .ok (.d x) := rfl
@[simp] theorem intI_int {f : Int → Int → Int} : intI f (.d (.int i)) (.d (.int j)) = .ok (.d (.int (f i j))) := rfl
@[simp] theorem intB_int {f : Int → Int → Bool} : intB f (.d (.int i)) (.d (.int j)) = .ok (.d (.bool (f i j))) := rfl
@[simp] theorem addD_int : addD (.d (.int i)) (.d (.int j)) = .ok (.d (.int (i + j))) := rfl
theorem addD_own (h : xs.length + ys.length ≤ 16777216) : addD (.own xs) (.own ys) = .ok (.own (xs ++ ys)) := by
  show (if xs.length + ys.length ≤ 16777216 then _ else _) = _
  rw [if_pos h]
theorem addD_own_list (h : xs.length + ys.length ≤ 16777216) : addD (.own xs) (.d (.list ys)) = .ok (.own (xs ++ ys)) := by
  show (if xs.length + ys.length ≤ 16777216 then _ else _) = _
  rw [if_pos h]
theorem addD_list_own (h : xs.length + ys.length ≤ 16777216) : addD (.d (.list xs)) (.own ys) = .ok (.own (xs ++ ys)) := by
  show (if xs.length + ys.length ≤ 16777216 then _ else _) = _
  rw [if_pos h]
theorem addD_list (h : xs.length + ys.length ≤ 16777216) : addD (.d (.list xs)) (.d (.list ys)) = .ok (.own (xs ++ ys)) := by
  show (if xs.length + ys.length ≤ 16777216 then _ else _) = _
  rw [if_pos h]
theorem addD_tup (h : xs.length + ys.length ≤ 16777216) : addD (.d (.tuple xs)) (.d (.tuple ys)) = .ok (.d (.tuple (xs ++ ys))) := by
  show (if xs.length + ys.length ≤ 16777216 then _ else _) = _
  rw [if_pos h]
theorem addD_str (h : s.length + t.length ≤ 16777216) : addD (.d (.str s)) (.d (.str t)) = .ok (.d (.str (s ++ t))) := by
  show (if s.length + t.length ≤ 16777216 then _ else _) = _
  rw [if_pos h]
theorem mulD_int (h : (-(2 ^ 64) < i ∧ i < 2 ^ 64) ∨ (-(2 ^ 64) < j ∧ j < 2 ^ 64)) : mulD (.d (.int i)) (.d (.int j)) = .ok (.d (.int (i * j))) := by
  show (if _ then _ else _) = _
  rw [if_pos h]
theorem mulD_own (h : -(2 ^ 63) ≤ j ∧ j < 2 ^ 63 ∧ xs.length * j.toNat ≤ 16777216) : mulD (.own xs) (.d (.int j)) = .ok (.own (List.replicate j.toNat xs).flatten) := by
  show (if _ then _ else _) = _
  rw [if_pos h]
theorem divD_int (h : 0 < j ∧ j < 1073741824) : divD (.d (.int i)) (.d (.int j)) = .ok (.d (.int (i / j))) := by
  show (if _ then _ else _) = _
  rw [if_pos h]
theorem modD_int (h : 0 < j) : modD (.d (.int i)) (.d (.int j)) = .ok (.d (.int (i % j))) := by
  show (if _ then _ else _) = _
  rw [if_pos h]
@[simp] theorem negD_int : negD (.d (.int i)) = .ok (.d (.int (-i))) := rfl
@[simp] theorem isNone_none : isNoneD (.d .none) = .ok (.d (.bool true)) := rfl
@[simp] theorem isNone_bool : isNoneD (.d (.bool b)) = .ok (.d (.bool false)) := rfl
@[simp] theorem isNone_int : isNoneD (.d (.int i)) = .ok (.d (.bool false)) := rfl
@[simp] theorem isNone_str : isNoneD (.d (.str s)) = .ok (.d (.bool false)) := rfl
@[simp] theorem isNone_list : isNoneD (.d (.list xs)) = .ok (.d (.bool false)) := rfl
@[simp] theorem isNone_tuple : isNoneD (.d (.tuple xs)) = .ok (.d (.bool false)) := rfl
@[simp] theorem isNone_own : isNoneD (.own xs) = .ok (.d (.bool false)) := rfl
@[simp] theorem notNone_none : notNoneD (.d .none) = .ok (.d (.bool false)) := rfl
@[simp] theorem notNone_bool : notNoneD (.d (.bool b)) = .ok (.d (.bool true)) := rfl
@[simp] theorem notNone_int : notNoneD (.d (.int i)) = .ok (.d (.bool true)) := rfl
@[simp] theorem notNone_str : notNoneD (.d (.str s)) = .ok (.d (.bool true)) := rfl
@[simp] theorem notNone_list : notNoneD (.d (.list xs)) = .ok (.d (.bool true)) := rfl
@[simp] theorem notNone_tuple : notNoneD (.d (.tuple xs)) = .ok (.d (.bool true)) := rfl
@[simp] theorem len_list : lenD (.d (.list xs)) = .ok (.d (.int xs.length)) := rfl
@[simp] theorem len_tuple : lenD (.d (.tuple xs)) = .ok (.d (.int xs.length)) := rfl
@[simp] theorem len_own : lenD (.own xs) = .ok (.d (.int xs.length)) := rfl
@[simp] theorem len_own2 : lenD (.own2 xss) = .ok (.d (.int xss.length)) := rfl
@[simp] theorem max_int : maxD (.d (.int i)) (.d (.int j)) = .ok (.d (.int (if j > i then j else i))) := rfl
@[simp] theorem min_int : minD (.d (.int i)) (.d (.int j)) = .ok (.d (.int (if j < i then j else i))) := rfl
@[simp] theorem list_list : listD (.d (.list xs)) = .ok (.own xs) := rfl
@[simp] theorem list_tuple : listD (.d (.tuple xs)) = .ok (.own xs) := rfl
@[simp] theorem list_own : listD (.own xs) = .ok (.own xs) := rfl
@[simp] theorem tuple_list : tupleD (.d (.list xs)) = .ok (.d (.tuple xs)) := rfl
@[simp] theorem tuple_tuple : tupleD (.d (.tuple xs)) = .ok (.d (.tuple xs)) := rfl
@[simp] theorem tuple_own : tupleD (.own xs) = .ok (.d (.tuple xs)) := rfl
@[simp] theorem items_list : itemsR (.d (.list xs)) = .ok xs := rfl
@[simp] theorem items_tuple : itemsR (.d (.tuple xs)) = .ok xs := rfl
@[simp] theorem items_own : itemsR (.own xs) = .ok xs := rfl
@[simp] theorem asB_bool : asB (.d (.bool b)) = .ok b := rfl
@[simp] theorem asD_d : asD (.d x) = .ok x := rfl
@[simp] theorem asD_own : asD (.own xs) = .ok (.list xs) := rfl
@[simp] theorem asI_int : asI (.d (.int i)) = .ok (some i) := rfl
@[simp] theorem cellI_int : cellI (.d (.int i)) = .ok i := rfl
@[simp] theorem asRow_own : asRow (.own xs) = .ok xs := rfl
@[simp] theorem freezeAll_nil : freezeAll [] e = e := rfl
@[simp] theorem freezeAll_cons {i : Nat} {is : List Nat} : freezeAll (i :: is) e = freezeAll is (freeze i e) := rfl
@[simp] theorem freeze_zero : freeze 0 (c :: e) = freezeC c :: e := rfl
@[simp] theorem freeze_succ : freeze (n + 1) (c :: e) = c :: freeze n e := by
  unfold freeze
  rw [List.getElem?_cons_succ]
  cases e[n]? with
  | none => rfl
  | some c => rfl
@[simp] theorem freezeC_d : freezeC (.d x) = .d x := rfl
@[simp] theorem freezeC_own : freezeC (.own xs) = .d (.list xs) := rfl
@[simp] theorem freezeC_own2 : freezeC (.own2 xss) = .d (.list (xss.map .list)) := rfl
@[simp] theorem freezeC_un : freezeC .un = .un := rfl
@[simp] theorem ownAt_zero {f : List D → Out} : ownAt 0 (.own xs :: e) f = f xs := rfl
@[simp] theorem ownAt_succ {f : List D → Out} : ownAt (n + 1) (c :: e) f = ownAt n e f := by
  unfold ownAt
  rw [List.getElem?_cons_succ]
@[simp] theorem getC_par {a : Addr} : getC 0 (.par a xs :: e) = .ok (.own xs) := rfl
@[simp] theorem parAt_zero {a : Addr} {f : Addr → List D → Out} : parAt 0 (.par a xs :: e) f = f a xs := rfl
@[simp] theorem parAt_succ {f : Addr → List D → Out} : parAt (n + 1) (c :: e) f = parAt n e f := by
  unfold parAt
  rw [List.getElem?_cons_succ]
@[simp] theorem freezeC_par {a : Addr} : freezeC (.par a xs) = .par a xs := rfl
@[simp] theorem quiet_ok' {α : Type} {x : α} : (R.ok x).quiet = .ok x := rfl
@[simp] theorem own2At_zero {f : List (List D) → Out} : own2At 0 (.own2 xss :: e) f = f xss := rfl
@[simp] theorem own2At_succ {f : List (List D) → Out} : own2At (n + 1) (c :: e) f = own2At n e f := by
  unfold own2At
  rw [List.getElem?_cons_succ]
@[simp] theorem andR_ok {r : R Bool} : andR (.ok b) r = if b = true then r else .ok false := rfl
@[simp] theorem orR_ok {r : R Bool} : orR (.ok b) r = if b = true then .ok true else r := rfl
@[simp] theorem notR_ok : notR (.ok b) = .ok (!b) := rfl
@[simp] theorem andV_ok {r : R Cell} : andV (.ok (.d (.bool b))) r = if b = true then r else .ok (.d (.bool false)) := rfl
@[simp] theorem orV_ok {r : R Cell} : orV (.ok (.d (.bool b))) r = if b = true then .ok (.d (.bool true)) else r := rfl
@[simp] theorem notV_ok : notV (.ok (.d (.bool b))) = .ok (.d (.bool (!b))) := rfl
@[simp] theorem ifR_ok {α : Type} {u v : R α} : ifR (.ok b) u v = if b = true then u else v := rfl
@[simp] theorem consR_ok {r : R (List D)} : consR (.ok (.d x)) r = r.bind fun ds => .ok (x :: ds) := rfl
@[simp] theorem consR_own {r : R (List D)} : consR (.ok (.own xs)) r = r.bind fun ds => .ok (.list xs :: ds) := rfl
@[simp] theorem consR_no {r : R (List D)} : consR .no r = .no := rfl
theorem lstR_ok (h : xs.length ≤ 16777216) : lstR (.ok xs) = .ok (.own xs) := by
  show (if _ then _ else _) = _
  rw [if_pos h]
theorem tupR_ok (h : xs.length ≤ 16777216) : tupR (.ok xs) = .ok (.d (.tuple xs)) := by
  show (if _ then _ else _) = _
  rw [if_pos h]
@[simp] theorem quiet_ok {α : Type} {a : α} : (R.ok a).quiet = .ok a := rfl
@[simp] theorem lent_int : (R.ok (.d (.int i)) : R Cell).lent = .ok (.d (.int i)) := rfl
@[simp] theorem lent_bool : (R.ok (.d (.bool b)) : R Cell).lent = .ok (.d (.bool b)) := rfl
@[simp] theorem lent_none : (R.ok (.d .none) : R Cell).lent = .ok (.d .none) := rfl
@[simp] theorem endD_rt : endD (.rt c) = .ok c := rfl
@[simp] theorem endD_nx : endD (.nx e) = .ok (.d .none) := rfl
@[simp] theorem endD_ex {k : Str} {fs : List (Str × D)} : endD (.ex k fs e) = .ex k fs := rfl
@[simp] theorem put_nm : (Tg.nm n).put x e = some (e.set n (.d x)) := rfl
@[simp] theorem turnD_nm {g : Env → Out} : turnD (.nm n) g x e = g (e.set n (.d x)) := rfl
theorem setR_ok {n : Nat} (h : n < e.length) : setR n e c = .nx (e.set n c) := if_pos h
/-- an index within -/
theorem at_nat {α : Type} {l : List α} {k : Nat} {a : α} (h : l[k]? = some a) : L2.atI l (k : Int) = some a := L2.atI_nat h
theorem ix_nat {n k : Nat} (h : k < n) : L2.ixN n (k : Int) = some k := by
  unfold L2.ixN
  rw [if_pos (by omega), if_pos (by omega), Int.toNat_natCast]
theorem idx_list {k : Nat} (h : xs[k]? = some x) : idxD (.d (.list xs)) (.d (.int (k : Int))) = .ok (.d x) := by
  show (match L2.atI xs (k : Int) with | some v => R.ok (Cell.d v) | none => .no) = _
  rw [at_nat h]
theorem idx_tuple {k : Nat} (h : xs[k]? = some x) : idxD (.d (.tuple xs)) (.d (.int (k : Int))) = .ok (.d x) := by
  show (match L2.atI xs (k : Int) with | some v => R.ok (Cell.d v) | none => .no) = _
  rw [at_nat h]
theorem idx_own {k : Nat} (h : xs[k]? = some x) : idxD (.own xs) (.d (.int (k : Int))) = .ok (.d x) := by
  show (match L2.atI xs (k : Int) with | some v => R.ok (Cell.d v) | none => .no) = _
  rw [at_nat h]
theorem idx_own2 {k : Nat} (h : xss[k]? = some xs) : idxD (.own2 xss) (.d (.int (k : Int))) = .ok (.own xs) := by
  show (match L2.atI xss (k : Int) with | some v => R.ok (Cell.own v) | none => .no) = _
  rw [at_nat h]
theorem eqD_ok (hx : SeqAt.shaped x = true) (hy : SeqAt.shaped y = true) : eqD (.d x) (.d y) = .ok (.d (.bool (PyData.eqv x y))) := by
  show (if _ then _ else _) = _
  rw [if_pos ⟨hx, hy⟩]
theorem neD_ok (hx : SeqAt.shaped x = true) (hy : SeqAt.shaped y = true) : neD (.d x) (.d y) = .ok (.d (.bool (!PyData.eqv x y))) := by
  show (if _ then _ else _) = _
  rw [if_pos ⟨hx, hy⟩]
end
/-! ### loops by an invariant -/
theorem forD_ind {g : D → Env → Out} {P : Nat → Env → Prop} : ∀ {xs : List D} {e : Env}, P 0 e → (∀ i x e, xs[i]? = some x → P i e → ∃ e', g x e = .nx e' ∧ P (i + 1) e') → ∃ e', forD g xs e = .nx e' ∧ P xs.length e' := by
  have go : ∀ (xs : List D) (k : Nat) (e : Env), P k e → (∀ i x e, xs[i]? = some x → P (k + i) e → ∃ e', g x e = .nx e' ∧ P (k + i + 1) e') → ∃ e', forD g xs e = .nx e' ∧ P (k + xs.length) e' := by
    intro xs
    induction xs with
    | nil => exact fun k e h _ => ⟨e, rfl, h⟩
    | cons x xs ih =>
      intro k e h st
      obtain ⟨e1, h1, h2⟩ := st 0 x e rfl h
      obtain ⟨e2, h3, h4⟩ := ih (k + 1) e1 h2 fun i y e' hy hp => by
        have := st (i + 1) y e' (by simpa using hy) (by rw [show k + (i + 1) = k + 1 + i by omega]; exact hp)
        rw [show k + (i + 1) = k + 1 + i by omega] at this
        exact this
      refine ⟨e2, ?_, by rw [List.length_cons, show k + (xs.length + 1) = k + 1 + xs.length by omega]; exact h4⟩
      show (match g x e with | .nx e' => forD g xs e' | .ct e' => forD g xs e' | .bk e' => .nx e' | o => o) = _
      rw [h1]
      exact h3
  intro xs e h st
  have := go xs 0 e h fun i x e hx hp => by
    have := st i x e hx (by rw [Nat.zero_add] at hp; exact hp)
    rw [Nat.zero_add]
    exact this
  rw [Nat.zero_add] at this
  exact this
/-- a loop that may leave: o is what it leaves with -/
def Out.stops : Out → Bool
  | .rt _ => true
  | .ex _ _ _ => true
  | _ => false
theorem forD_find {g : D → Env → Out} {P : Nat → Env → Prop} {S : Out → Prop} : ∀ {xs : List D} {e : Env}, P 0 e → (∀ i x e, xs[i]? = some x → P i e → (∃ e', g x e = .nx e' ∧ P (i + 1) e') ∨ ((g x e).stops = true ∧ S (g x e))) →
    (∃ e', forD g xs e = .nx e' ∧ P xs.length e') ∨ ((forD g xs e).stops = true ∧ S (forD g xs e)) := by
  have go : ∀ (xs : List D) (k : Nat) (e : Env), P k e → (∀ i x e, xs[i]? = some x → P (k + i) e → (∃ e', g x e = .nx e' ∧ P (k + i + 1) e') ∨ ((g x e).stops = true ∧ S (g x e))) → (∃ e', forD g xs e = .nx e' ∧ P (k + xs.length) e') ∨ ((forD g xs e).stops = true ∧ S (forD g xs e)) := by
    intro xs
    induction xs with
    | nil => exact fun k e h _ => .inl ⟨e, rfl, h⟩
    | cons x xs ih =>
      intro k e h st
      have un : forD g (x :: xs) e = (match g x e with | .nx e' => forD g xs e' | .ct e' => forD g xs e' | .bk e' => .nx e' | o => o) := rfl
      rcases st 0 x e rfl h with ⟨e1, h1, h2⟩ | ⟨h1, h2⟩
      · rw [un, h1]
        rcases ih (k + 1) e1 h2 fun i y e' hy hp => by
          have := st (i + 1) y e' (by simpa using hy) (by rw [show k + (i + 1) = k + 1 + i by omega]; exact hp)
          rw [show k + (i + 1) = k + 1 + i by omega] at this
          exact this with ⟨e2, h3, h4⟩ | h5
        · exact .inl ⟨e2, h3, by rw [List.length_cons, show k + (xs.length + 1) = k + 1 + xs.length by omega]; exact h4⟩
        · exact .inr h5
      · have eo : forD g (x :: xs) e = g x e := by
          rw [un]
          cases q : g x e with
          | rt c => rfl
          | ex k fs e' => rfl
          | no => exact absurd h1 (by rw [q]; exact Bool.false_ne_true)
          | nx _ => exact absurd h1 (by rw [q]; exact Bool.false_ne_true)
          | bk _ => exact absurd h1 (by rw [q]; exact Bool.false_ne_true)
          | ct _ => exact absurd h1 (by rw [q]; exact Bool.false_ne_true)
        rw [eo]
        exact .inr ⟨h1, h2⟩
  intro xs e h st
  have := go xs 0 e h fun i x e hx hp => by
    have := st i x e hx (by rw [Nat.zero_add] at hp; exact hp)
    rw [Nat.zero_add]
    exact this
  rw [Nat.zero_add] at this
  exact this
/-- a while by a measure -/
theorem whileD_ind {c : Env → R Bool} {g : Env → Out} {P : Nat → Env → Prop} {Q : Env → Prop} (st : ∀ m e, P m e → (c e = .ok false ∧ Q e) ∨ (c e = .ok true ∧ ∃ e', g e = .nx e' ∧ ∃ k, k < m ∧ P k e')) : ∀ (m n : Nat) (e : Env), P m e → m < n → ∃ e', whileD c g n e = .nx e' ∧ Q e' := by
  intro m
  induction m using Nat.strongRecOn with
  | ind m ih =>
    intro n e h hn
    cases n with
    | zero => omega
    | succ n =>
      have un : whileD c g (n + 1) e = (c e).into e fun b => if b = true then (match g e with | .nx e' => whileD c g n e' | .ct e' => whileD c g n e' | .bk e' => .nx e' | o => o) else .nx e := rfl
      rcases st m e h with ⟨h1, h2⟩ | ⟨h1, e', h2, k, hk, h3⟩
      · exact ⟨e, by rw [un, h1]; rfl, h2⟩
      · rw [un, h1, R.into_ok, if_pos rfl, h2]
        exact ih k hk n e' h3 (by omega)
theorem mapR_map {α β : Type} {f : α → R β} {g : α → β} : ∀ {xs : List α}, (∀ x ∈ xs, f x = .ok (g x)) → mapR f xs = .ok (xs.map g)
  | [], _ => rfl
  | x :: xs, h => by
    show (f x).bind (fun y => (mapR f xs).bind fun ys => .ok (y :: ys)) = _
    rw [h x List.mem_cons_self, R.bind_ok, mapR_map fun y hy => h y (List.mem_cons_of_mem _ hy)]
    rfl
theorem mapIf_filter {α β : Type} {t : α → R Bool} {f : α → R β} {p : α → Bool} {g : α → β} : ∀ {xs : List α}, (∀ x ∈ xs, t x = .ok (p x)) → (∀ x ∈ xs, p x = true → f x = .ok (g x)) → mapIf t f xs = .ok ((xs.filter p).map g)
  | [], _, _ => rfl
  | x :: xs, h1, h2 => by
    show (t x).bind (fun b => if b = true then (f x).bind (fun y => (mapIf t f xs).bind fun ys => .ok (y :: ys)) else mapIf t f xs) = _
    rw [h1 x List.mem_cons_self, R.bind_ok, mapIf_filter (fun y hy => h1 y (List.mem_cons_of_mem _ hy)) (fun y hy => h2 y (List.mem_cons_of_mem _ hy))]
    cases q : p x with
    | false =>
      rw [List.filter_cons, q]
      rfl
    | true =>
      rw [if_pos rfl, h2 x List.mem_cons_self q, List.filter_cons, q]
      rfl
theorem rng1_nat {n : Nat} (h : n ≤ 16777217) : rng1D (.d (.int (n : Int))) = .ok (upFrom 0 n) := by
  unfold rng1D
  simp only []
  rw [if_pos (by omega), Int.toNat_natCast]
theorem rng1_int {i : Int} (h0 : 0 ≤ i) (h : i ≤ 16777217) : rng1D (.d (.int i)) = .ok (upFrom 0 i.toNat) := by
  unfold rng1D
  simp only []
  rw [if_pos (by omega)]
theorem rev_nat {n : Nat} (h : n ≤ 16777217) : rngRevD (.d (.int (n : Int))) = .ok (stepFrom ((n : Int) - 1) (-1) n) := by
  unfold rngRevD
  simp only []
  rw [if_pos (by omega), Int.sub_zero, Int.toNat_natCast, Int.zero_add]
theorem down_nat {n : Nat} (h : n ≤ 16777217) : rngDownD (.d (.int ((n : Int) - 1))) (.d (.int (-1))) (.d (.int (-1))) = .ok (stepFrom ((n : Int) - 1) (-1) n) := by
  unfold rngDownD
  simp only []
  rw [if_pos (by omega), show ((n : Int) - 1 - -1).toNat = n by omega]
theorem upz_get {n i : Nat} {x : D} (h : (upFrom 0 n)[i]? = some x) : i < n ∧ x = .int (i : Int) := by
  unfold upFrom at h
  rw [List.getElem?_map, Option.map_eq_some_iff] at h
  obtain ⟨k, h1, rfl⟩ := h
  obtain ⟨hk, h2⟩ := List.getElem?_eq_some_iff.mp h1
  rw [List.length_range] at hk
  rw [List.getElem_range] at h2
  subst h2
  exact ⟨hk, by rw [Int.zero_add]⟩
theorem up_len {i : Int} {n : Nat} : (upFrom i n).length = n := by
  unfold upFrom
  rw [List.length_map, List.length_range]
theorem down_get {n i : Nat} {x : D} (h : (stepFrom ((n : Int) - 1) (-1) n)[i]? = some x) : i < n ∧ x = .int ((n - 1 - i : Nat) : Int) := by
  unfold stepFrom at h
  rw [List.getElem?_map, Option.map_eq_some_iff] at h
  obtain ⟨k, h1, rfl⟩ := h
  obtain ⟨hk, h2⟩ := List.getElem?_eq_some_iff.mp h1
  rw [List.length_range] at hk
  rw [List.getElem_range] at h2
  subst h2
  exact ⟨hk, by congr 1; omega⟩
theorem step_len {i c : Int} {n : Nat} : (stepFrom i c n).length = n := by
  unfold stepFrom
  rw [List.length_map, List.length_range]
end DL
/-! ## DL, part 11: slices, lists in the making -/
namespace DL
open PySem
theorem cut_all {α : Type} (xs : List α) : cutD xs none none = xs := by
  unfold cutD
  rw [HT.sIx_none, HT.sIx_none, List.drop_zero, Nat.sub_zero, List.take_length]
theorem cut_to {α : Type} (xs : List α) (b : Nat) : cutD xs none (some (b : Int)) = xs.take b := by
  unfold cutD
  rw [HT.sIx_none, HT.sIx_nat, List.drop_zero, Nat.sub_zero]
  by_cases h : b ≤ xs.length
  · rw [Nat.min_eq_left h]
  · rw [Nat.min_eq_right (by omega), List.take_length, List.take_of_length_le (by omega)]
theorem cut_from {α : Type} (xs : List α) (a : Nat) : cutD xs (some (a : Int)) none = xs.drop a := by
  unfold cutD
  rw [HT.sIx_none, HT.sIx_nat]
  by_cases h : a ≤ xs.length
  · rw [Nat.min_eq_left h, List.take_of_length_le (by rw [List.length_drop]; omega)]
  · rw [Nat.min_eq_right (by omega), Nat.sub_self, List.take_zero, List.drop_of_length_le (by omega)]
theorem cut_nat {α : Type} (xs : List α) (a b : Nat) : cutD xs (some (a : Int)) (some (b : Int)) = (xs.drop a).take (b - a) := by
  unfold cutD
  rw [HT.sIx_nat, HT.sIx_nat]
  by_cases h : a ≤ xs.length
  · rw [Nat.min_eq_left h]
    by_cases h2 : b ≤ xs.length
    · rw [Nat.min_eq_left h2]
    · rw [Nat.min_eq_right (by omega), List.take_of_length_le (by rw [List.length_drop]; omega), List.take_of_length_le (by rw [List.length_drop]; omega)]
  · rw [Nat.min_eq_right (by omega : xs.length ≤ a), List.drop_of_length_le (Nat.le_refl _), List.drop_of_length_le (by omega), List.take_nil, List.take_nil]
@[simp] theorem slice_list {xs : List D} {l u : Option Int} : sliceD (.d (.list xs)) l u = .ok (.own (cutD xs l u)) := rfl
@[simp] theorem slice_own {xs : List D} {l u : Option Int} : sliceD (.own xs) l u = .ok (.own (cutD xs l u)) := rfl
@[simp] theorem slice_tuple {xs : List D} {l u : Option Int} : sliceD (.d (.tuple xs)) l u = .ok (.d (.tuple (cutD xs l u))) := rfl
theorem mapR_cells {ys : List D} : mapR asD (ys.map Cell.d) = .ok ys := by
  rw [mapR_map (g := fun c => match c with | .d x => x | _ => .none)]
  · rw [List.map_map]
    congr 1
    exact List.map_id ys
  · intro c hc
    obtain ⟨y, _, rfl⟩ := List.mem_map.mp hc
    rfl
theorem mapR_rows {ys : List (List D)} : mapR asRow (ys.map Cell.own) = .ok ys := by
  rw [mapR_map (g := fun c => match c with | .own x => x | _ => [])]
  · rw [List.map_map]
    congr 1
    exact List.map_id ys
  · intro c hc
    obtain ⟨y, _, rfl⟩ := List.mem_map.mp hc
    rfl
theorem lcL_cells {ys : List D} (h : ys.length ≤ 16777216) : lcL (.ok (ys.map Cell.d)) = .ok (.own ys) := by
  show (match mapR asD (ys.map Cell.d) with | .ok ds => if ds.length ≤ 16777216 then R.ok (Cell.own ds) else .no | _ => .no) = _
  rw [mapR_cells]
  exact if_pos h
theorem lcR_cells {ys : List (List D)} (h : ys.length ≤ 16777216) : lcR (.ok (ys.map Cell.own)) = .ok (.own2 ys) := by
  show (match mapR asRow (ys.map Cell.own) with | .ok ds => if ds.length ≤ 16777216 then R.ok (Cell.own2 ds) else .no | _ => .no) = _
  rw [mapR_rows]
  exact if_pos h
/-- [f for t in xs if p] -/
theorem lcL_filter {vs : List Nat} {i : Nat} {c : Env → R Bool} {f : Env → R Cell} {xs : List D} {e : Env} {p : D → Bool} {g : D → D} (hl : xs.length ≤ 16777216)
    (hc : ∀ x ∈ xs, c ((wipeC e vs).set i (.d x)) = .ok (p x)) (hf : ∀ x ∈ xs, p x = true → f ((wipeC e vs).set i (.d x)) = .ok (.d (g x))) :
    lcL (lcD vs (.nm i) c f xs e) = .ok (.own ((xs.filter p).map g)) := by
  show lcL (mapIf (fun x => c ((wipeC e vs).set i (.d x))) (fun x => f ((wipeC e vs).set i (.d x))) xs) = _
  rw [mapIf_filter (p := p) (g := fun x => Cell.d (g x)) hc hf]
  have e : (xs.filter p).map (fun x => Cell.d (g x)) = ((xs.filter p).map g).map Cell.d := by rw [List.map_map]; rfl
  rw [e]
  exact lcL_cells (by rw [List.length_map]; exact Nat.le_trans (List.length_filter_le _ _) hl)
theorem lcL_map {vs : List Nat} {i : Nat} {f : Env → R Cell} {xs : List D} {e : Env} {g : D → D} (hl : xs.length ≤ 16777216)
    (hf : ∀ x ∈ xs, f ((wipeC e vs).set i (.d x)) = .ok (.d (g x))) :
    lcL (lcD vs (.nm i) (fun _ => .ok true) f xs e) = .ok (.own (xs.map g)) := by
  have := lcL_filter (vs := vs) (i := i) (c := fun _ => .ok true) (f := f) (e := e) (p := fun _ => true) (g := g) hl (fun _ _ => rfl) (fun x hx _ => hf x hx)
  rw [this, List.filter_eq_self.mpr fun _ _ => rfl]
theorem lcR_map {vs : List Nat} {i : Nat} {f : Env → R Cell} {xs : List D} {e : Env} {g : D → List D} (hl : xs.length ≤ 16777216)
    (hf : ∀ x ∈ xs, f ((wipeC e vs).set i (.d x)) = .ok (.own (g x))) :
    lcR (lcD vs (.nm i) (fun _ => .ok true) f xs e) = .ok (.own2 (xs.map g)) := by
  show lcR (mapIf (fun x => R.ok true) (fun x => f ((wipeC e vs).set i (.d x))) xs) = _
  rw [mapIf_filter (p := fun _ => true) (g := fun x => Cell.own (g x)) (fun _ _ => rfl) (fun x hx _ => hf x hx), List.filter_eq_self.mpr fun _ _ => rfl]
  have e : xs.map (fun x => Cell.own (g x)) = (xs.map g).map Cell.own := by rw [List.map_map]; rfl
  rw [e]
  exact lcR_cells (by rw [List.length_map]; exact hl)
/-- .. when its items are known to be of a kind only -/
theorem lcL_some {α : Type} {em : α → D} {P : α → Prop} {vs : List Nat} {i : Nat} {f : Env → R Cell} {xs : List D} {e : Env} (hl : xs.length ≤ 16777216)
    (hf : ∀ x ∈ xs, ∃ y, P y ∧ f ((wipeC e vs).set i (.d x)) = .ok (.d (em y))) :
    ∃ ys : List α, ys.length = xs.length ∧ (∀ y ∈ ys, P y) ∧ lcL (lcD vs (.nm i) (fun _ => .ok true) f xs e) = .ok (.own (ys.map em)) := by
  have go : ∀ zs : List D, (∀ z ∈ zs, ∃ y, P y ∧ f ((wipeC e vs).set i (.d z)) = .ok (.d (em y))) → ∃ ys : List α, ys.length = zs.length ∧ (∀ y ∈ ys, P y) ∧ lcD vs (.nm i) (fun _ => .ok true) f zs e = .ok ((ys.map em).map Cell.d) := by
    intro zs
    induction zs with
    | nil => exact fun _ => ⟨[], rfl, by simp, rfl⟩
    | cons z zs ih =>
      intro h
      obtain ⟨y, py, hy⟩ := h z List.mem_cons_self
      obtain ⟨ys, l, p, q⟩ := ih fun w hw => h w (List.mem_cons_of_mem _ hw)
      refine ⟨y :: ys, by simp [l], ?_, ?_⟩
      · intro w hw
        rcases List.mem_cons.mp hw with rfl | hw
        · exact py
        · exact p w hw
      · show (R.ok true).bind (fun b => if b = true then (f ((wipeC e vs).set i (.d z))).bind (fun y => (lcD vs (.nm i) (fun _ => .ok true) f zs e).bind fun ys => .ok (y :: ys)) else lcD vs (.nm i) (fun _ => .ok true) f zs e) = _
        rw [R.bind_ok, if_pos rfl, hy, R.bind_ok, q]
        rfl
  obtain ⟨ys, l, p, q⟩ := go xs hf
  exact ⟨ys, l, p, by rw [q]; exact lcL_cells (by rw [List.length_map, l]; exact hl)⟩
theorem setAt_nat {α : Type} {xs : List α} {k : Nat} {a : α} (h : k < xs.length) : setAt xs (k : Int) a = some (xs.set k a) := by
  unfold setAt
  rw [ix_nat h]
  rfl
theorem mulD_one {x : D} {n : Nat} (h : n ≤ 16777216) : mulD (.own [x]) (.d (.int (n : Int))) = .ok (.own (List.replicate n x)) := by
  rw [mulD_own ⟨by omega, by omega, by simp; omega⟩, Int.toNat_natCast]
  have : ∀ m : Nat, (List.replicate m [x]).flatten = List.replicate m x := fun m => by
    induction m with
    | zero => rfl
    | succ m ih => rw [List.replicate_succ, List.flatten_cons, ih]; rfl
  rw [this]
@[simp] theorem wipe_nil {e : Env} : wipeC e [] = e := rfl
@[simp] theorem wipe_cons {e : Env} {i : Nat} {r : List Nat} : wipeC e (i :: r) = (wipeC e r).set i .un := rfl
end DL
/-! ## DL, part 15: how texts reckon -/
namespace DL
open PySem
section
variable {e : Env} {c : Cell} {x y : D} {xs ys : List D} {i j : Int} {n : Nat} {s t : Str} {b : Bool} {l u : Option Int}
@[simp] theorem itemsA_list : itemsA (.d (.list xs)) = .ok xs := rfl
@[simp] theorem itemsA_tuple : itemsA (.d (.tuple xs)) = .ok xs := rfl
@[simp] theorem itemsA_own : itemsA (.own xs) = .ok xs := rfl
@[simp] theorem itemsA_text : itemsA (.d (.str s)) = .ok (s.cps.toList.map fun c => .str ⟨#[c]⟩) := rfl
@[simp] theorem sliceA_list : sliceA (.d (.list xs)) l u = .ok (.own (cutD xs l u)) := rfl
@[simp] theorem sliceA_own : sliceA (.own xs) l u = .ok (.own (cutD xs l u)) := rfl
@[simp] theorem sliceA_tuple : sliceA (.d (.tuple xs)) l u = .ok (.d (.tuple (cutD xs l u))) := rfl
theorem sliceA_text (h : s.length ≤ 16777216) : sliceA (.d (.str s)) l u = .ok (.d (.str (L2.cutS s l u))) := by
  show (if s.length ≤ 16777216 then _ else _) = _
  rw [if_pos h]
@[simp] theorem strC_str : strC (.d (.str s)) = .ok (.d (.str s)) := rfl
theorem splitD_str (h1 : (t.length == 0) = false) (h2 : s.length + 2 ≤ 16777216) : splitD (.d (.str s)) (.d (.str t)) = .ok (.own ((Txt.split s t).map .str)) := by
  show (if _ then _ else _) = _
  rw [if_pos ⟨h1, h2⟩]
theorem strsD_map : ∀ ys : List Str, strsD (ys.map PyData.str) = some ys
  | [] => rfl
  | y :: ys => by
    show (strsD (ys.map PyData.str)).map (y :: ·) = _
    rw [strsD_map ys]; rfl
theorem joinD_own {zs : List Str} (h : (zs.map Str.length).sum + zs.length * s.length ≤ 16777216) : joinD (.d (.str s)) (.own (zs.map PyData.str)) = .ok (.d (.str (Txt.join s zs))) := by
  show (match strsD (zs.map PyData.str) with | some ys => if (ys.map Str.length).sum + ys.length * s.length ≤ 16777216 then R.ok (Cell.d (.str (Txt.join s ys))) else .no | none => .no) = _
  rw [strsD_map]
  exact if_pos h
theorem joinD_list {zs : List Str} (h : (zs.map Str.length).sum + zs.length * s.length ≤ 16777216) : joinD (.d (.str s)) (.d (.list (zs.map PyData.str))) = .ok (.d (.str (Txt.join s zs))) := by
  show (match strsD (zs.map PyData.str) with | some ys => if (ys.map Str.length).sum + ys.length * s.length ≤ 16777216 then R.ok (Cell.d (.str (Txt.join s ys))) else .no | none => .no) = _
  rw [strsD_map]
  exact if_pos h
@[simp] theorem intD_int : intD (.d (.int i)) = .ok (.d (.int i)) := rfl
@[simp] theorem intD_bool : intD (.d (.bool b)) = .ok (.d (.int (if b then 1 else 0))) := rfl
theorem str_shaped (h : SeqAt.shaped (.str s) = true) (h' : SeqAt.shaped (.str t) = true) : eqD (.d (.str s)) (.d (.str t)) = .ok (.d (.bool (decide (s = t)))) := by
  rw [eqD_ok h h']
  congr 3
theorem str_shaped_ne (h : SeqAt.shaped (.str s) = true) (h' : SeqAt.shaped (.str t) = true) : neD (.d (.str s)) (.d (.str t)) = .ok (.d (.bool (!decide (s = t)))) := by
  rw [neD_ok h h']
  congr 3
theorem int_eqD : eqD (.d (.int i)) (.d (.int j)) = .ok (.d (.bool (decide (i = j)))) := by
  rw [eqD_ok rfl rfl]
  congr 3
theorem int_neD : neD (.d (.int i)) (.d (.int j)) = .ok (.d (.bool (!decide (i = j)))) := by
  rw [neD_ok rfl rfl]
  congr 3
theorem rng2_nat {a b : Nat} (ha : a ≤ 16777217) (hb : b ≤ 16777217) : rng2D (.d (.int (a : Int))) (.d (.int (b : Int))) = .ok (upFrom (a : Int) (b - a)) := by
  unfold rng2D
  simp only []
  rw [if_pos (by omega), show ((b : Int) - (a : Int)).toNat = b - a by omega]
end
end DL
namespace K94
open PySem (Addr)
open DL L2
noncomputable section
def g_print_item : DL.Env → Out := fun en =>
  (((((getC 0 en).bind isNoneD).bind asB).into en fun b => if b = true then ((cstD (.str (PySem.Str.ofString "lost")) en).into en .rt) else (Out.nx en)).andThen fun en => (((getC 0 en).bind strD).into en .rt))
def m_print_item : List D → R Cell := runD 1 1 g_print_item
def g_print_deed : DL.Env → Out := fun en =>
  ((((((getC 0 en).bind fun x => (cstD (.int 0) en).bind fun y => idxD x y).bind fun x => (cstD (.str (PySem.Str.ofString "put")) en).bind fun y => eqD x y).bind asB).into en fun b => if b = true then ((((((getC 0 en).bind fun x => (cstD (.int 2) en).bind fun y => idxD x y).bind strC).bind fun x => (cstD (.str (PySem.Str.ofString "\n")) en).bind fun y => splitD x y).into en (setR 1 en)).andThen fun en => (((lstR (consR ((((cstD (.str (PySem.Str.ofString "put ")) en).bind fun x => ((getC 0 en).bind fun x => (cstD (.int 1) en).bind fun y => idxD x y).bind fun y => addD x y).bind fun x => (cstD (.str (PySem.Str.ofString " ")) en).bind fun y => addD x y).bind fun x => (((getC 1 en).bind lenD).bind strD).bind fun y => addD x y) (R.ok []))).bind fun x => (((getC 1 en).bind itemsA).bind fun xs => lcL (lcD ([2] : List Nat) (.nm 2) (fun en => (R.ok true)) (fun en => ((cstD (.str (PySem.Str.ofString "|")) en).bind fun x => (getC 2 en).bind fun y => addD x y)) xs en)).bind fun y => addD x y).into en .rt)) else (Out.nx en)).andThen fun en => ((((((getC 0 en).bind fun x => (cstD (.int 0) en).bind fun y => idxD x y).bind fun x => (cstD (.str (PySem.Str.ofString "drop")) en).bind fun y => eqD x y).bind asB).into en fun b => if b = true then ((lstR (consR ((cstD (.str (PySem.Str.ofString "drop ")) en).bind fun x => ((getC 0 en).bind fun x => (cstD (.int 1) en).bind fun y => idxD x y).bind fun y => addD x y) (R.ok []))).into en .rt) else (Out.nx en)).andThen fun en => ((((((getC 0 en).bind fun x => (cstD (.int 0) en).bind fun y => idxD x y).bind fun x => (cstD (.str (PySem.Str.ofString "read")) en).bind fun y => eqD x y).bind asB).into en fun b => if b = true then ((lstR (consR (((cstD (.str (PySem.Str.ofString " ")) en).bind strC).bind fun x => ((lstR (consR (cstD (.str (PySem.Str.ofString "read")) en) (consR (((getC 0 en).bind fun x => (cstD (.int 1) en).bind fun y => idxD x y).bind Cell.val) (R.ok [])))).bind fun x => ((((getC 0 en).bind fun x => (cstD (.int 2) en).bind fun y => idxD x y).bind itemsA).bind fun xs => lcL (lcD ([3] : List Nat) (.nm 3) (fun en => (R.ok true)) (fun en => ((consR (varD 3 en) (R.ok [])).bind m_print_item)) xs en)).bind fun y => addD x y).bind fun y => joinD x y) (R.ok []))).into en .rt) else (Out.nx en)).andThen fun en => ((lstR (consR (cstD (.str (PySem.Str.ofString "back")) en) (R.ok []))).into en .rt))))
def m_print_deed : List D → R Cell := runD 4 1 g_print_deed
def l0_print_log : DL.Env → Out :=
  fun en => (((getC 1 en).bind fun x => ((consR (varD 2 en) (R.ok [])).bind m_print_deed).bind fun y => addD x y).into en (setR 1 en))
def g_print_log : DL.Env → Out := fun en =>
  (((lstR (R.ok [])).into en (setR 1 en)).andThen fun en => ((((varD 0 en).bind itemsA).into en fun xs => forD (turnD (.nm 2) l0_print_log) xs en).andThen fun en => ((((cstD (.str (PySem.Str.ofString "\n")) en).bind strC).bind fun x => (getC 1 en).bind fun y => joinD x y).into en .rt)))
def m_print_log : List D → R Cell := runD 3 1 g_print_log
def g_law_cell : DL.Env → Out := fun en =>
  (((((getC 1 en).bind fun x => ((getC 0 en).bind lenD).bind fun y => intB (fun i j => decide (i < j)) x y).bind asB).into en fun b => if b = true then ((((getC 0 en).bind fun x => (getC 1 en).bind fun y => idxD x y).bind Cell.val).into en .rt) else (Out.nx en)).andThen fun en => ((cstD (.int 0) en).into en .rt))
def m_law_cell : List D → R Cell := runD 2 2 g_law_cell
def l0_law_draw : DL.Env → Out :=
  fun en => ((ownAt 4 en fun xs => (((getC 3 en).bind fun x => (getC 7 en).bind fun y => modD x y).bind asD).into en fun d => if xs.length < 16777216 then .nx (en.set 4 (.own (xs ++ [d]))) else .no).andThen fun en => (((getC 3 en).bind fun x => (getC 7 en).bind fun y => divD x y).into en (setR 3 en)))
def l1_law_draw : DL.Env → Out :=
  fun en => (((((((getC 5 en).bind fun x => (cstD (.int 48271) en).bind fun y => mulD x y).bind fun x => (cstD (.int 11) en).bind fun y => addD x y).bind fun x => (getC 6 en).bind fun y => addD x y).bind fun x => (cstD (.int 2147483647) en).bind fun y => modD x y).into en (setR 5 en)).andThen fun en => ((((((getC 5 en).bind fun x => (cstD (.int 69621) en).bind fun y => mulD x y).bind fun x => (cstD (.int 3) en).bind fun y => addD x y).bind fun x => (cstD (.int 2147483647) en).bind fun y => modD x y).into en (setR 5 en)).andThen fun en => (ownAt 4 en fun xs => ((((getC 5 en).bind fun x => (cstD (.int 7) en).bind fun y => divD x y).bind fun x => ((getC 2 en).bind fun x => (getC 6 en).bind fun y => idxD x y).bind fun y => modD x y).bind asD).into en fun d => if xs.length < 16777216 then .nx (en.set 4 (.own (xs ++ [d]))) else .no)))
def g_law_draw : DL.Env → Out := fun en =>
  ((((consR (varD 0 en) (consR (varD 1 en) (R.ok []))).bind m_law_cell).into en (setR 3 en)).andThen fun en => (((((getC 3 en).bind fun x => (cstD (.int 0) en).bind fun y => intB (fun i j => decide (i < j)) x y).bind asB).into en fun b => if b = true then (((getC 3 en).bind negD).into en (setR 3 en)) else (Out.nx en)).andThen fun en => (((lstR (R.ok [])).into en (setR 4 en)).andThen fun en => (((((getC 3 en).bind fun x => ((cstD (.int 10) en).bind fun x => (cstD (.int 18) en).bind fun y => powD x y).bind fun y => intB (fun i j => decide (j ≤ i)) x y).bind asB).into en fun b => if b = true then ((((getC 3 en).bind fun x => ((cstD (.int 10) en).bind fun x => (cstD (.int 18) en).bind fun y => powD x y).bind fun y => intI (fun i j => i - j) x y).into en (setR 3 en)).andThen fun en => ((((varD 2 en).bind itemsA).into en fun xs => forD (turnD (.nm 7) l0_law_draw) xs en).andThen fun en => ((getC 4 en).into en .rt))) else (Out.nx en)).andThen fun en => ((((((getC 3 en).bind fun x => (cstD (.int 1) en).bind fun y => addD x y).bind fun x => ((cstD (.int 31) en).bind fun x => (getC 1 en).bind fun y => mulD x y).bind fun y => addD x y).bind fun x => (cstD (.int 2147483647) en).bind fun y => modD x y).into en (setR 5 en)).andThen fun en => (((((getC 2 en).bind lenD).bind rng1D).into en fun xs => forD (turnD (.nm 6) l1_law_draw) xs en).andThen fun en => ((getC 4 en).into en .rt)))))))
def m_law_draw : List D → R Cell := runD 8 3 g_law_draw
def g_law_some_deed : DL.Env → Out := fun en =>
  ((((consR (varD 0 en) (consR (varD 1 en) (consR (lstR (consR (cstD (.int 4) en) (consR (cstD (.int 4) en) (consR (cstD (.int 4) en) (consR (cstD (.int 5) en) (consR (cstD (.int 9) en) (consR (cstD (.int 9) en) (R.ok [])))))))) (R.ok [])))).bind m_law_draw).into en (setR 2 en)).andThen fun en => (((((lstR (consR (cstD (.str (PySem.Str.ofString "a")) en) (consR (cstD (.str (PySem.Str.ofString "bee")) en) (consR (cstD (.str (PySem.Str.ofString "c-3")) en) (consR (cstD (.str (PySem.Str.ofString "lost")) en) (R.ok [])))))).bind fun x => ((getC 2 en).bind fun x => (cstD (.int 1) en).bind fun y => idxD x y).bind fun y => idxD x y).bind Cell.val).into en (setR 3 en)).andThen fun en => ((((((getC 2 en).bind fun x => (cstD (.int 0) en).bind fun y => idxD x y).bind fun x => (cstD (.int 0) en).bind fun y => eqD x y).bind asB).into en fun b => if b = true then ((tupR (consR (cstD (.str (PySem.Str.ofString "put")) en) (consR (varD 3 en) (consR (((lstR (consR (cstD (.str (PySem.Str.ofString "")) en) (consR (cstD (.str (PySem.Str.ofString "const a = 1;")) en) (consR (cstD (.str (PySem.Str.ofString "x\ny")) en) (consR (cstD (.str (PySem.Str.ofString "\n\nz ")) en) (R.ok [])))))).bind fun x => ((getC 2 en).bind fun x => (cstD (.int 2) en).bind fun y => idxD x y).bind fun y => idxD x y).bind Cell.val) (R.ok []))))).into en .rt) else (Out.nx en)).andThen fun en => ((((((getC 2 en).bind fun x => (cstD (.int 0) en).bind fun y => idxD x y).bind fun x => (cstD (.int 1) en).bind fun y => eqD x y).bind asB).into en fun b => if b = true then ((tupR (consR (cstD (.str (PySem.Str.ofString "drop")) en) (consR (varD 3 en) (R.ok [])))).into en .rt) else (Out.nx en)).andThen fun en => ((((((getC 2 en).bind fun x => (cstD (.int 0) en).bind fun y => idxD x y).bind fun x => (cstD (.int 2) en).bind fun y => eqD x y).bind asB).into en fun b => if b = true then ((tupR (consR (cstD (.str (PySem.Str.ofString "back")) en) (R.ok []))).into en .rt) else (Out.nx en)).andThen fun en => ((tupR (consR (cstD (.str (PySem.Str.ofString "read")) en) (consR (varD 3 en) (consR (((tupR (consR (tupR (R.ok [])) (consR (tupR (consR (((getC 2 en).bind fun x => (cstD (.int 4) en).bind fun y => idxD x y).bind fun x => (cstD (.int 4) en).bind fun y => intI (fun i j => i - j) x y) (R.ok []))) (consR (tupR (consR (cstD .none en) (consR (((getC 2 en).bind fun x => (cstD (.int 4) en).bind fun y => idxD x y).bind fun x => (cstD (.int 1000) en).bind fun y => mulD x y) (R.ok [])))) (consR (tupR (consR (cstD (.int 0) en) (consR (cstD .none en) (consR (((getC 2 en).bind fun x => (cstD (.int 5) en).bind fun y => idxD x y).bind fun x => (cstD (.int 9) en).bind fun y => intI (fun i j => i - j) x y) (R.ok []))))) (consR (tupR (consR (cstD .none en) (R.ok []))) (R.ok []))))))).bind fun x => ((getC 2 en).bind fun x => (cstD (.int 3) en).bind fun y => idxD x y).bind fun y => idxD x y).bind Cell.val) (R.ok []))))).into en .rt))))))
def m_law_some_deed : List D → R Cell := runD 4 2 g_law_some_deed
def l0_law_deed_lines : DL.Env → Out :=
  fun en => ((((getC 2 en).bind isNoneD).bind asB).into en fun b => if b = true then (((getC 1 en).bind fun x => (cstD (.str (PySem.Str.ofString " lost")) en).bind fun y => addD x y).into en (setR 1 en)) else ((((getC 1 en).bind fun x => (cstD (.str (PySem.Str.ofString " ")) en).bind fun y => addD x y).bind fun x => ((getC 2 en).bind strD).bind fun y => addD x y).into en (setR 1 en)))
def g_law_deed_lines : DL.Env → Out := fun en =>
  ((((((getC 0 en).bind fun x => (cstD (.int 0) en).bind fun y => idxD x y).bind fun x => (cstD (.str (PySem.Str.ofString "back")) en).bind fun y => eqD x y).bind asB).into en fun b => if b = true then ((lstR (consR (cstD (.str (PySem.Str.ofString "back")) en) (R.ok []))).into en .rt) else (Out.nx en)).andThen fun en => ((((((getC 0 en).bind fun x => (cstD (.int 0) en).bind fun y => idxD x y).bind fun x => (cstD (.str (PySem.Str.ofString "drop")) en).bind fun y => eqD x y).bind asB).into en fun b => if b = true then ((lstR (consR ((cstD (.str (PySem.Str.ofString "drop ")) en).bind fun x => ((getC 0 en).bind fun x => (cstD (.int 1) en).bind fun y => idxD x y).bind fun y => addD x y) (R.ok []))).into en .rt) else (Out.nx en)).andThen fun en => ((((((getC 0 en).bind fun x => (cstD (.int 0) en).bind fun y => idxD x y).bind fun x => (cstD (.str (PySem.Str.ofString "put")) en).bind fun y => eqD x y).bind asB).into en fun b => if b = true then ((((((getC 0 en).bind fun x => (cstD (.int 2) en).bind fun y => idxD x y).bind strC).bind fun x => (cstD (.str (PySem.Str.ofString "\n")) en).bind fun y => splitD x y).into en (setR 3 en)).andThen fun en => (((lstR (consR ((((cstD (.str (PySem.Str.ofString "put ")) en).bind fun x => ((getC 0 en).bind fun x => (cstD (.int 1) en).bind fun y => idxD x y).bind fun y => addD x y).bind fun x => (cstD (.str (PySem.Str.ofString " ")) en).bind fun y => addD x y).bind fun x => (((getC 3 en).bind lenD).bind strD).bind fun y => addD x y) (R.ok []))).bind fun x => (((getC 3 en).bind itemsA).bind fun xs => lcL (lcD ([4] : List Nat) (.nm 4) (fun en => (R.ok true)) (fun en => ((cstD (.str (PySem.Str.ofString "|")) en).bind fun x => (getC 4 en).bind fun y => addD x y)) xs en)).bind fun y => addD x y).into en .rt)) else (Out.nx en)).andThen fun en => ((((cstD (.str (PySem.Str.ofString "read ")) en).bind fun x => ((getC 0 en).bind fun x => (cstD (.int 1) en).bind fun y => idxD x y).bind fun y => addD x y).into en (setR 1 en)).andThen fun en => ((((((getC 0 en).bind fun x => (cstD (.int 2) en).bind fun y => idxD x y).bind Cell.val).bind itemsA).into en fun xs => forD (turnD (.nm 2) l0_law_deed_lines) xs en).andThen fun en => ((lstR (consR (varD 1 en) (R.ok []))).into en .rt))))))
def m_law_deed_lines : List D → R Cell := runD 5 1 g_law_deed_lines
def l0_law_alike (rec : List D → R Cell) : DL.Env → Out :=
  fun en => ((notR (((consR (((getC 0 en).bind fun x => (getC 2 en).bind fun y => idxD x y).bind Cell.val) (consR (((getC 1 en).bind fun x => (getC 2 en).bind fun y => idxD x y).bind Cell.val) (R.ok []))).bind rec).bind asB)).into en fun b => if b = true then ((cstD (.bool false) en).into en .rt) else (Out.nx en))
def g_law_alike (rec : List D → R Cell) : DL.Env → Out := fun en =>
  (((((getC 1 en).bind isNoneD).bind asB).into en fun b => if b = true then (((getC 0 en).bind isNoneD).into en .rt) else (Out.nx en)).andThen fun en => (((((getC 1 en).bind (isiD "bool")).bind asB).into en fun b => if b = true then ((andV ((getC 0 en).bind (isiD "bool")) ((getC 0 en).bind fun x => (getC 1 en).bind fun y => eqD x y)).into en .rt) else (Out.nx en)).andThen fun en => (((((getC 1 en).bind (isiD "int")).bind asB).into en fun b => if b = true then ((andV ((getC 0 en).bind (isiD "int")) (andV (notV ((getC 0 en).bind (isiD "bool"))) ((getC 0 en).bind fun x => (getC 1 en).bind fun y => eqD x y))).into en .rt) else (Out.nx en)).andThen fun en => (((((getC 1 en).bind (isiD "str")).bind asB).into en fun b => if b = true then ((andV ((getC 0 en).bind (isiD "str")) ((getC 0 en).bind fun x => (getC 1 en).bind fun y => eqD x y)).into en .rt) else (Out.nx en)).andThen fun en => (((andR (((getC 1 en).bind (isiD "tuple")).bind asB) (notR (((getC 0 en).bind (isiD "tuple")).bind asB))).into en fun b => if b = true then ((cstD (.bool false) en).into en .rt) else (Out.nx en)).andThen fun en => (((andR (((getC 1 en).bind (isiD "list")).bind asB) (notR (((getC 0 en).bind (isiD "list")).bind asB))).into en fun b => if b = true then ((cstD (.bool false) en).into en .rt) else (Out.nx en)).andThen fun en => ((((((getC 0 en).bind lenD).bind fun x => ((getC 1 en).bind lenD).bind fun y => neD x y).bind asB).into en fun b => if b = true then ((cstD (.bool false) en).into en .rt) else (Out.nx en)).andThen fun en => (((((getC 1 en).bind lenD).bind rng1D).into en fun xs => forD (turnD (.nm 2) (l0_law_alike rec)) xs en).andThen fun en => ((cstD (.bool true) en).into en .rt)))))))))
def m_law_alike : Nat → List D → R Cell
  | 0 => fun _ => .no
  | n + 1 => runD 3 2 (g_law_alike (m_law_alike n))
theorem mn_law_alike : ∀ (n : Nat) (ds : List D), ds.length ≠ 2 → m_law_alike n ds = .no
  | 0, _, _ => rfl
  | _ + 1, ds, h => runD_no ds h
def g_law_digits : DL.Env → Out := fun en =>
  ((andV ((cstD (.int 0) en).bind fun x => ((getC 0 en).bind lenD).bind fun y => intB (fun i j => decide (i < j)) x y) (andV (((getC 0 en).bind lenD).bind fun x => (cstD (.int 21) en).bind fun y => intB (fun i j => decide (i < j)) x y) (((((getC 0 en).bind itemsA).bind fun xs => lcL (lcD ([1] : List Nat) (.nm 1) (fun en => (((getC 1 en).bind fun x => (cstD (.str (PySem.Str.ofString "0123456789")) en).bind fun y => notInD x y).bind asB)) (fun en => (varD 1 en)) xs en)).bind lenD).bind fun x => (cstD (.int 0) en).bind fun y => eqD x y))).into en .rt)
def m_law_digits : List D → R Cell := runD 2 1 g_law_digits
def l0_law_items : DL.Env → Out :=
  fun en => ((((getC 2 en).bind fun x => (cstD (.str (PySem.Str.ofString "lost")) en).bind fun y => eqD x y).bind asB).into en fun b => if b = true then (ownAt 1 en fun xs => ((cstD .none en).bind asD).into en fun d => if xs.length < 16777216 then .nx (en.set 1 (.own (xs ++ [d]))) else .no) else ((andR ((((getC 2 en).bind fun x => (R.ok none).bind fun l => ((cstD (.int 1) en).bind asI).bind fun u => sliceA x l u).bind fun x => (cstD (.str (PySem.Str.ofString "-")) en).bind fun y => eqD x y).bind asB) (((consR ((getC 2 en).bind fun x => ((cstD (.int 1) en).bind asI).bind fun l => (R.ok none).bind fun u => sliceA x l u) (R.ok [])).bind m_law_digits).bind asB)).into en fun b => if b = true then (ownAt 1 en fun xs => (((cstD (.int 0) en).bind fun x => (((getC 2 en).bind fun x => ((cstD (.int 1) en).bind asI).bind fun l => (R.ok none).bind fun u => sliceA x l u).bind intD).bind fun y => intI (fun i j => i - j) x y).bind asD).into en fun d => if xs.length < 16777216 then .nx (en.set 1 (.own (xs ++ [d]))) else .no) else ((((consR (varD 2 en) (R.ok [])).bind m_law_digits).bind asB).into en fun b => if b = true then (ownAt 1 en fun xs => (((getC 2 en).bind intD).bind asD).into en fun d => if xs.length < 16777216 then .nx (en.set 1 (.own (xs ++ [d]))) else .no) else ((cstD .none en).into en .rt))))
def g_law_items : DL.Env → Out := fun en =>
  (((lstR (R.ok [])).into en (setR 1 en)).andThen fun en => ((((varD 0 en).bind itemsA).into en fun xs => forD (turnD (.nm 2) l0_law_items) xs en).andThen fun en => (((getC 1 en).bind tupleD).into en .rt)))
def m_law_items : List D → R Cell := runD 3 1 g_law_items
def g_law_label : DL.Env → Out := fun en =>
  ((andV (((getC 0 en).bind lenD).bind fun x => (cstD (.int 1) en).bind fun y => intB (fun i j => decide (j < i)) x y) (andV (((getC 0 en).bind fun x => (cstD (.int 1) en).bind fun y => idxD x y).bind fun x => (cstD (.str (PySem.Str.ofString "")) en).bind fun y => neD x y) ((cstD (.str (PySem.Str.ofString "\t")) en).bind fun x => ((getC 0 en).bind fun x => (cstD (.int 1) en).bind fun y => idxD x y).bind fun y => notInD x y))).into en .rt)
def m_law_label : List D → R Cell := runD 1 1 g_law_label
def l0_law_line : DL.Env → Out :=
  fun en => ((orR (((getC 4 en).bind fun x => ((getC 0 en).bind lenD).bind fun y => intB (fun i j => decide (j ≤ i)) x y).bind asB) (((((getC 0 en).bind fun x => (getC 4 en).bind fun y => idxD x y).bind fun x => (R.ok none).bind fun l => ((cstD (.int 1) en).bind asI).bind fun u => sliceA x l u).bind fun x => (cstD (.str (PySem.Str.ofString "|")) en).bind fun y => neD x y).bind asB)).into en fun b => if b = true then (((getC 4 en).bind fun x => (cstD (.int 1) en).bind fun y => addD x y).into en .rt) else (Out.nx en))
def g_law_line : DL.Env → Out := fun en =>
  ((((((getC 0 en).bind fun x => (getC 1 en).bind fun y => idxD x y).bind strC).bind fun x => (cstD (.str (PySem.Str.ofString " ")) en).bind fun y => splitD x y).into en (setR 2 en)).andThen fun en => (((((getC 2 en).bind fun x => (lstR (consR (cstD (.str (PySem.Str.ofString "back")) en) (R.ok []))).bind fun y => eqD x y).bind asB).into en fun b => if b = true then ((tupR (consR (cstD (.str (PySem.Str.ofString "back")) en) (R.ok []))).into en .rt) else (Out.nx en)).andThen fun en => (((fun en => ((notR (((consR (varD 2 en) (R.ok [])).bind m_law_label).bind asB)).into en fun b => if b = true then (((getC 1 en).bind fun x => (cstD (.int 1) en).bind fun y => addD x y).into en .rt) else (Out.nx en))) (freezeAll [2] en)).andThen fun en => (((andR ((((getC 2 en).bind fun x => (cstD (.int 0) en).bind fun y => idxD x y).bind fun x => (cstD (.str (PySem.Str.ofString "drop")) en).bind fun y => eqD x y).bind asB) ((((getC 2 en).bind lenD).bind fun x => (cstD (.int 2) en).bind fun y => eqD x y).bind asB)).into en fun b => if b = true then ((tupR (consR (cstD (.str (PySem.Str.ofString "drop")) en) (consR (((getC 2 en).bind fun x => (cstD (.int 1) en).bind fun y => idxD x y).bind Cell.val) (R.ok [])))).into en .rt) else (Out.nx en)).andThen fun en => ((((((getC 2 en).bind fun x => (cstD (.int 0) en).bind fun y => idxD x y).bind fun x => (cstD (.str (PySem.Str.ofString "read")) en).bind fun y => eqD x y).bind asB).into en fun b => if b = true then ((((consR ((getC 2 en).bind fun x => ((cstD (.int 2) en).bind asI).bind fun l => (R.ok none).bind fun u => sliceA x l u) (R.ok [])).bind m_law_items).into en (setR 5 en)).andThen fun en => (((((getC 5 en).bind isNoneD).bind asB).into en fun b => if b = true then (((getC 1 en).bind fun x => (cstD (.int 1) en).bind fun y => addD x y).into en .rt) else (Out.nx en)).andThen fun en => ((tupR (consR (cstD (.str (PySem.Str.ofString "read")) en) (consR (((getC 2 en).bind fun x => (cstD (.int 1) en).bind fun y => idxD x y).bind Cell.val) (consR (varD 5 en) (R.ok []))))).into en .rt))) else (Out.nx en)).andThen fun en => (((orR ((((getC 2 en).bind fun x => (cstD (.int 0) en).bind fun y => idxD x y).bind fun x => (cstD (.str (PySem.Str.ofString "put")) en).bind fun y => neD x y).bind asB) (orR ((((getC 2 en).bind lenD).bind fun x => (cstD (.int 3) en).bind fun y => neD x y).bind asB) (orR (notR (((consR (((getC 2 en).bind fun x => (cstD (.int 2) en).bind fun y => idxD x y).bind Cell.val) (R.ok [])).bind m_law_digits).bind asB)) (((((getC 2 en).bind fun x => (cstD (.int 2) en).bind fun y => idxD x y).bind intD).bind fun x => (cstD (.int 0) en).bind fun y => eqD x y).bind asB)))).into en fun b => if b = true then (((getC 1 en).bind fun x => (cstD (.int 1) en).bind fun y => addD x y).into en .rt) else (Out.nx en)).andThen fun en => (((((getC 2 en).bind fun x => (cstD (.int 2) en).bind fun y => idxD x y).bind intD).into en (setR 3 en)).andThen fun en => (((((getC 1 en).bind fun x => (cstD (.int 1) en).bind fun y => addD x y).bind fun x => ((((getC 1 en).bind fun x => (getC 3 en).bind fun y => addD x y).bind fun y => ((getC 0 en).bind lenD).bind fun z => minD y z).bind fun x => (cstD (.int 1) en).bind fun y => addD x y).bind fun y => rng2D x y).into en fun xs => forD (turnD (.nm 4) l0_law_line) xs en).andThen fun en => ((tupR (consR (cstD (.str (PySem.Str.ofString "put")) en) (consR (((getC 2 en).bind fun x => (cstD (.int 1) en).bind fun y => idxD x y).bind Cell.val) (consR (((cstD (.str (PySem.Str.ofString "\n")) en).bind strC).bind fun x => ((((getC 0 en).bind fun x => (((getC 1 en).bind fun x => (cstD (.int 1) en).bind fun y => addD x y).bind asI).bind fun l => ((((getC 1 en).bind fun x => (cstD (.int 1) en).bind fun y => addD x y).bind fun x => (getC 3 en).bind fun y => addD x y).bind asI).bind fun u => sliceA x l u).bind itemsA).bind fun xs => lcL (lcD ([6] : List Nat) (.nm 6) (fun en => (R.ok true)) (fun en => ((getC 6 en).bind fun x => ((cstD (.int 1) en).bind asI).bind fun l => (R.ok none).bind fun u => sliceA x l u)) xs en)).bind fun y => joinD x y) (R.ok []))))).into en .rt)))))))))
def m_law_line : List D → R Cell := runD 7 2 g_law_line
def l0_law_due : DL.Env → R Bool :=
  fun en => (((getC 3 en).bind fun x => ((getC 1 en).bind lenD).bind fun y => intB (fun i j => decide (i < j)) x y).bind asB)
def l1_law_due : DL.Env → Out :=
  fun en => (((fun en => (((consR (varD 1 en) (consR (varD 3 en) (R.ok []))).bind m_law_line).into en (setR 4 en))) (freezeAll [1] en)).andThen fun en => (((((getC 4 en).bind (isiD "int")).bind asB).into en fun b => if b = true then ((getC 4 en).into en .rt) else (Out.nx en)).andThen fun en => ((ownAt 2 en fun xs => ((varD 4 en).bind asD).into en fun d => if xs.length < 16777216 then .nx (en.set 2 (.own (xs ++ [d]))) else .no).andThen fun en => ((((getC 3 en).bind fun x => (cstD (.int 1) en).bind fun y => addD x y).into en (setR 3 en)).andThen fun en => (((((getC 4 en).bind fun x => (cstD (.int 0) en).bind fun y => idxD x y).bind fun x => (cstD (.str (PySem.Str.ofString "put")) en).bind fun y => eqD x y).bind asB).into en fun b => if b = true then ((((getC 3 en).bind fun x => (cstD (.int 1) en).bind fun y => addD x y).bind fun x => (((((getC 4 en).bind fun x => (cstD (.int 2) en).bind fun y => idxD x y).bind itemsA).bind fun xs => lcL (lcD ([5] : List Nat) (.nm 5) (fun en => (((getC 5 en).bind fun x => (cstD (.str (PySem.Str.ofString "\n")) en).bind fun y => eqD x y).bind asB)) (fun en => (varD 5 en)) xs en)).bind lenD).bind fun y => addD x y).into en (setR 3 en)) else (Out.nx en))))))
def g_law_due : DL.Env → Out := fun en =>
  (((((getC 0 en).bind strC).bind fun x => (cstD (.str (PySem.Str.ofString "\n")) en).bind fun y => splitD x y).into en (setR 1 en)).andThen fun en => (((((getC 0 en).bind fun x => (cstD (.str (PySem.Str.ofString "")) en).bind fun y => eqD x y).bind asB).into en fun b => if b = true then ((lstR (R.ok [])).into en (setR 1 en)) else (Out.nx en)).andThen fun en => (((lstR (R.ok [])).into en (setR 2 en)).andThen fun en => (((cstD (.int 0) en).into en (setR 3 en)).andThen fun en => ((whileD l0_law_due l1_law_due 1000000 en).andThen fun en => ((getC 2 en).into en .rt))))))
def m_law_due : List D → R Cell := runD 6 1 g_law_due
def l0_digits_of : DL.Env → Out :=
  fun en => (((((cstD (.str (PySem.Str.ofString "0123456789")) en).bind strC).bind fun x => (getC 2 en).bind fun y => findD x y).into en (setR 3 en)).andThen fun en => (((((getC 3 en).bind fun x => (cstD (.int 0) en).bind fun y => intB (fun i j => decide (i < j)) x y).bind asB).into en fun b => if b = true then ((cstD .none en).into en .rt) else (Out.nx en)).andThen fun en => ((((cstD (.int 10) en).bind fun x => (getC 1 en).bind fun y => mulD x y).bind fun x => (getC 3 en).bind fun y => addD x y).into en (setR 1 en))))
def g_digits_of : DL.Env → Out := fun en =>
  (((orR ((((getC 0 en).bind lenD).bind fun x => (cstD (.int 1) en).bind fun y => intB (fun i j => decide (i < j)) x y).bind asB) ((((getC 0 en).bind lenD).bind fun x => (cstD (.int 20) en).bind fun y => intB (fun i j => decide (j < i)) x y).bind asB)).into en fun b => if b = true then ((cstD .none en).into en .rt) else (Out.nx en)).andThen fun en => (((cstD (.int 0) en).into en (setR 1 en)).andThen fun en => ((((varD 0 en).bind itemsA).into en fun xs => forD (turnD (.nm 2) l0_digits_of) xs en).andThen fun en => ((getC 1 en).into en .rt))))
def m_digits_of : List D → R Cell := runD 4 1 g_digits_of
def g_parse_item : DL.Env → Out := fun en =>
  (((((getC 0 en).bind fun x => (cstD (.str (PySem.Str.ofString "lost")) en).bind fun y => eqD x y).bind asB).into en fun b => if b = true then ((lstR (consR (cstD .none en) (R.ok []))).into en .rt) else (Out.nx en)).andThen fun en => ((((((getC 0 en).bind fun x => (R.ok none).bind fun l => ((cstD (.int 1) en).bind asI).bind fun u => sliceA x l u).bind fun x => (cstD (.str (PySem.Str.ofString "-")) en).bind fun y => eqD x y).bind asB).into en fun b => if b = true then ((((consR ((getC 0 en).bind fun x => ((cstD (.int 1) en).bind asI).bind fun l => (R.ok none).bind fun u => sliceA x l u) (R.ok [])).bind m_digits_of).into en (setR 1 en)).andThen fun en => ((ifR (((getC 1 en).bind isNoneD).bind asB) (lstR (R.ok [])) (lstR (consR ((getC 1 en).bind negD) (R.ok [])))).into en .rt)) else (Out.nx en)).andThen fun en => ((((consR (varD 0 en) (R.ok [])).bind m_digits_of).into en (setR 1 en)).andThen fun en => ((ifR (((getC 1 en).bind isNoneD).bind asB) (lstR (R.ok [])) (lstR (consR (varD 1 en) (R.ok [])))).into en .rt))))
def m_parse_item : List D → R Cell := runD 2 1 g_parse_item
def l0_parse_reading : DL.Env → Out :=
  fun en => ((((consR (varD 2 en) (R.ok [])).bind m_parse_item).into en (setR 3 en)).andThen fun en => ((((((getC 3 en).bind lenD).bind fun x => (cstD (.int 0) en).bind fun y => eqD x y).bind asB).into en fun b => if b = true then ((cstD .none en).into en .rt) else (Out.nx en)).andThen fun en => (ownAt 1 en fun xs => ((((getC 3 en).bind fun x => (cstD (.int 0) en).bind fun y => idxD x y).bind Cell.val).bind asD).into en fun d => if xs.length < 16777216 then .nx (en.set 1 (.own (xs ++ [d]))) else .no)))
def g_parse_reading : DL.Env → Out := fun en =>
  (((lstR (R.ok [])).into en (setR 1 en)).andThen fun en => ((((varD 0 en).bind itemsA).into en fun xs => forD (turnD (.nm 2) l0_parse_reading) xs en).andThen fun en => (((getC 1 en).bind tupleD).into en .rt)))
def m_parse_reading : List D → R Cell := runD 4 1 g_parse_reading
def g_is_label : DL.Env → Out := fun en =>
  ((andV ((getC 0 en).bind fun x => (cstD (.str (PySem.Str.ofString "")) en).bind fun y => neD x y) (andV ((((getC 0 en).bind strC).bind stripD).bind fun x => (getC 0 en).bind fun y => eqD x y) (andV ((cstD (.str (PySem.Str.ofString " ")) en).bind fun x => (getC 0 en).bind fun y => notInD x y) (andV ((cstD (.str (PySem.Str.ofString "\n")) en).bind fun x => (getC 0 en).bind fun y => notInD x y) ((cstD (.str (PySem.Str.ofString "\t")) en).bind fun x => (getC 0 en).bind fun y => notInD x y))))).into en .rt)
def m_is_label : List D → R Cell := runD 1 1 g_is_label
def l0_parse_put : DL.Env → Out :=
  fun en => (((orR (((getC 5 en).bind fun x => ((getC 0 en).bind lenD).bind fun y => intB (fun i j => decide (j ≤ i)) x y).bind asB) (((((getC 0 en).bind fun x => (getC 5 en).bind fun y => idxD x y).bind fun x => (R.ok none).bind fun l => ((cstD (.int 1) en).bind asI).bind fun u => sliceA x l u).bind fun x => (cstD (.str (PySem.Str.ofString "|")) en).bind fun y => neD x y).bind asB)).into en fun b => if b = true then ((((getC 5 en).bind fun x => (cstD (.int 1) en).bind fun y => addD x y).bind asD).into en fun d => .ex (PySem.Str.ofString "BadLog") [(PySem.Str.ofString "line", d)] en) else (Out.nx en)).andThen fun en => (ownAt 4 en fun xs => ((((getC 0 en).bind fun x => (getC 5 en).bind fun y => idxD x y).bind fun x => ((cstD (.int 1) en).bind asI).bind fun l => (R.ok none).bind fun u => sliceA x l u).bind asD).into en fun d => if xs.length < 16777216 then .nx (en.set 4 (.own (xs ++ [d]))) else .no))
def g_parse_put : DL.Env → Out := fun en =>
  (((ifR (andR ((((getC 2 en).bind lenD).bind fun x => (cstD (.int 3) en).bind fun y => eqD x y).bind asB) (((consR (((getC 2 en).bind fun x => (cstD (.int 1) en).bind fun y => idxD x y).bind Cell.val) (R.ok [])).bind m_is_label).bind asB)) ((consR (((getC 2 en).bind fun x => (cstD (.int 2) en).bind fun y => idxD x y).bind Cell.val) (R.ok [])).bind m_digits_of) (cstD .none en)).into en (setR 3 en)).andThen fun en => (((orR (((getC 3 en).bind isNoneD).bind asB) (((getC 3 en).bind fun x => (cstD (.int 0) en).bind fun y => eqD x y).bind asB)).into en fun b => if b = true then ((((getC 1 en).bind fun x => (cstD (.int 1) en).bind fun y => addD x y).bind asD).into en fun d => .ex (PySem.Str.ofString "BadLog") [(PySem.Str.ofString "line", d)] en) else (Out.nx en)).andThen fun en => (((lstR (R.ok [])).into en (setR 4 en)).andThen fun en => (((((getC 1 en).bind fun x => (cstD (.int 1) en).bind fun y => addD x y).bind fun x => (((getC 1 en).bind fun x => (cstD (.int 1) en).bind fun y => addD x y).bind fun x => ((getC 3 en).bind fun y => ((getC 0 en).bind lenD).bind fun z => minD y z).bind fun y => addD x y).bind fun y => rng2D x y).into en fun xs => forD (turnD (.nm 5) l0_parse_put) xs en).andThen fun en => ((tupR (consR (cstD (.str (PySem.Str.ofString "put")) en) (consR (((getC 2 en).bind fun x => (cstD (.int 1) en).bind fun y => idxD x y).bind Cell.val) (consR (((cstD (.str (PySem.Str.ofString "\n")) en).bind strC).bind fun x => (getC 4 en).bind fun y => joinD x y) (R.ok []))))).into en .rt)))))
def m_parse_put : List D → R Cell := runD 6 3 g_parse_put
def g_parse_line : DL.Env → Out := fun en =>
  ((((((getC 0 en).bind fun x => (getC 1 en).bind fun y => idxD x y).bind strC).bind fun x => (cstD (.str (PySem.Str.ofString " ")) en).bind fun y => splitD x y).into en (setR 2 en)).andThen fun en => ((((((getC 2 en).bind fun x => (cstD (.int 0) en).bind fun y => idxD x y).bind fun x => (cstD (.str (PySem.Str.ofString "put")) en).bind fun y => eqD x y).bind asB).into en fun b => if b = true then ((fun en => (((consR (varD 0 en) (consR (varD 1 en) (consR (varD 2 en) (R.ok [])))).bind m_parse_put).into en .rt)) (freezeAll [2] en)) else (Out.nx en)).andThen fun en => (((((getC 2 en).bind fun x => (lstR (consR (cstD (.str (PySem.Str.ofString "back")) en) (R.ok []))).bind fun y => eqD x y).bind asB).into en fun b => if b = true then ((tupR (consR (cstD (.str (PySem.Str.ofString "back")) en) (R.ok []))).into en .rt) else (Out.nx en)).andThen fun en => (((andR ((((getC 2 en).bind lenD).bind fun x => (cstD (.int 1) en).bind fun y => intB (fun i j => decide (j < i)) x y).bind asB) (((consR (((getC 2 en).bind fun x => (cstD (.int 1) en).bind fun y => idxD x y).bind Cell.val) (R.ok [])).bind m_is_label).bind asB)).into en fun b => if b = true then (((andR ((((getC 2 en).bind fun x => (cstD (.int 0) en).bind fun y => idxD x y).bind fun x => (cstD (.str (PySem.Str.ofString "drop")) en).bind fun y => eqD x y).bind asB) ((((getC 2 en).bind lenD).bind fun x => (cstD (.int 2) en).bind fun y => eqD x y).bind asB)).into en fun b => if b = true then ((tupR (consR (cstD (.str (PySem.Str.ofString "drop")) en) (consR (((getC 2 en).bind fun x => (cstD (.int 1) en).bind fun y => idxD x y).bind Cell.val) (R.ok [])))).into en .rt) else (Out.nx en)).andThen fun en => (((((getC 2 en).bind fun x => (cstD (.int 0) en).bind fun y => idxD x y).bind fun x => (cstD (.str (PySem.Str.ofString "read")) en).bind fun y => eqD x y).bind asB).into en fun b => if b = true then ((((consR ((getC 2 en).bind fun x => ((cstD (.int 2) en).bind asI).bind fun l => (R.ok none).bind fun u => sliceA x l u) (R.ok [])).bind m_parse_reading).into en (setR 3 en)).andThen fun en => ((((getC 3 en).bind notNoneD).bind asB).into en fun b => if b = true then ((tupR (consR (cstD (.str (PySem.Str.ofString "read")) en) (consR (((getC 2 en).bind fun x => (cstD (.int 1) en).bind fun y => idxD x y).bind Cell.val) (consR (varD 3 en) (R.ok []))))).into en .rt) else (Out.nx en))) else (Out.nx en))) else (Out.nx en)).andThen fun en => ((((getC 1 en).bind fun x => (cstD (.int 1) en).bind fun y => addD x y).bind asD).into en fun d => .ex (PySem.Str.ofString "BadLog") [(PySem.Str.ofString "line", d)] en)))))
def m_parse_line : List D → R Cell := runD 4 2 g_parse_line
def l0_parse_log : DL.Env → R Bool :=
  fun en => (((getC 3 en).bind fun x => ((getC 1 en).bind lenD).bind fun y => intB (fun i j => decide (i < j)) x y).bind asB)
def l1_parse_log : DL.Env → Out :=
  fun en => (((fun en => (((consR (varD 1 en) (consR (varD 3 en) (R.ok []))).bind m_parse_line).into en (setR 4 en))) (freezeAll [1] en)).andThen fun en => ((ownAt 2 en fun xs => ((varD 4 en).bind asD).into en fun d => if xs.length < 16777216 then .nx (en.set 2 (.own (xs ++ [d]))) else .no).andThen fun en => ((((getC 3 en).bind cellI).into en fun k => ((cstD (.int 1) en).bind cellI).into en fun z => .nx (en.set 3 (.d (.int (k + z))))).andThen fun en => (((((getC 4 en).bind fun x => (cstD (.int 0) en).bind fun y => idxD x y).bind fun x => (cstD (.str (PySem.Str.ofString "put")) en).bind fun y => eqD x y).bind asB).into en fun b => if b = true then (((getC 3 en).bind cellI).into en fun k => ((((((getC 4 en).bind fun x => (cstD (.int 2) en).bind fun y => idxD x y).bind strC).bind fun x => (cstD (.str (PySem.Str.ofString "\n")) en).bind fun y => splitD x y).bind lenD).bind cellI).into en fun z => .nx (en.set 3 (.d (.int (k + z))))) else (Out.nx en)))))
def g_parse_log : DL.Env → Out := fun en =>
  (((ifR (((getC 0 en).bind fun x => (cstD (.str (PySem.Str.ofString "")) en).bind fun y => neD x y).bind asB) (((getC 0 en).bind strC).bind fun x => (cstD (.str (PySem.Str.ofString "\n")) en).bind fun y => splitD x y) (lstR (R.ok []))).into en (setR 1 en)).andThen fun en => (((lstR (R.ok [])).into en (setR 2 en)).andThen fun en => (((cstD (.int 0) en).into en (setR 3 en)).andThen fun en => ((whileD l0_parse_log l1_parse_log 1000000 en).andThen fun en => ((getC 2 en).into en .rt)))))
def m_parse_log : List D → R Cell := runD 5 1 g_parse_log
def g_law_parsed : DL.Env → Out := fun en =>
  (tryF 1 (PySem.Str.ofString "BadLog") (PySem.Str.ofString "line") (((consR (varD 0 en) (R.ok [])).bind m_parse_log).into en .rt))
def m_law_parsed : List D → R Cell := runD 2 1 g_law_parsed
def l0_law : DL.Env → Out :=
  fun en => (((getC 2 en).bind fun x => ((consR (varD 3 en) (R.ok [])).bind m_law_deed_lines).bind fun y => addD x y).into en (setR 2 en))
def g_law : DL.Env → Out := fun en =>
  ((((((((consR (varD 0 en) (consR (cstD (.int 0) en) (consR (lstR (consR (cstD (.int 7) en) (R.ok []))) (R.ok [])))).bind m_law_draw).bind fun x => (cstD (.int 0) en).bind fun y => idxD x y).bind Cell.val).bind rng1D).bind fun xs => lcL (lcD ([8] : List Nat) (.nm 8) (fun en => (R.ok true)) (fun en => ((consR (varD 0 en) (consR ((cstD (.int 1) en).bind fun x => (getC 8 en).bind fun y => addD x y) (R.ok []))).bind m_law_some_deed)) xs en)).into en (setR 1 en)).andThen fun en => (((lstR (R.ok [])).into en (setR 2 en)).andThen fun en => (((fun en => (((varD 1 en).bind itemsA).into en fun xs => forD (turnD (.nm 3) l0_law) xs en)) (freezeAll [1] en)).andThen fun en => (((((cstD (.str (PySem.Str.ofString "\n")) en).bind strC).bind fun x => (getC 2 en).bind fun y => joinD x y).into en (setR 4 en)).andThen fun en => (((fun en => ((orR (notR (((consR ((consR (varD 1 en) (R.ok [])).bind m_print_log) (consR (varD 4 en) (R.ok []))).bind (m_law_alike 12)).bind asB)) (notR (((consR ((consR (varD 4 en) (R.ok [])).bind m_law_parsed) (consR (varD 1 en) (R.ok []))).bind (m_law_alike 12)).bind asB))).into en fun b => if b = true then ((cstD (.bool false) en).into en .rt) else (Out.nx en))) (freezeAll [1] en)).andThen fun en => (((lstR (consR (cstD (.str (PySem.Str.ofString "put a 1")) en) (consR (cstD (.str (PySem.Str.ofString "|const a = 1;")) en) (consR (cstD (.str (PySem.Str.ofString "|")) en) (consR (cstD (.str (PySem.Str.ofString "put b 2")) en) (consR (cstD (.str (PySem.Str.ofString "drop a")) en) (consR (cstD (.str (PySem.Str.ofString "back")) en) (consR (cstD (.str (PySem.Str.ofString "read a 1 -2 lost")) en) (consR (cstD (.str (PySem.Str.ofString "read a")) en) (consR (cstD (.str (PySem.Str.ofString "read  a 1")) en) (consR (cstD (.str (PySem.Str.ofString "drop")) en) (consR (cstD (.str (PySem.Str.ofString "put a 0")) en) (consR (cstD (.str (PySem.Str.ofString "put a")) en) (R.ok [])))))))))))))).into en (setR 5 en)).andThen fun en => ((((getC 5 en).bind fun x => (lstR (consR (cstD (.str (PySem.Str.ofString "read a x")) en) (consR (cstD (.str (PySem.Str.ofString "read b -")) en) (consR (cstD (.str (PySem.Str.ofString "back ")) en) (consR (cstD (.str (PySem.Str.ofString " back")) en) (consR (cstD (.str (PySem.Str.ofString "")) en) (consR (cstD (.str (PySem.Str.ofString "drop a b")) en) (consR (cstD (.str (PySem.Str.ofString "put c 123456789012345678901")) en) (consR (cstD (.str (PySem.Str.ofString "drop \t")) en) (consR (cstD (.str (PySem.Str.ofString "read a 1 ")) en) (consR (cstD (.str (PySem.Str.ofString "keep a")) en) (consR (cstD (.str (PySem.Str.ofString "read a 007 -0")) en) (consR (cstD (.str (PySem.Str.ofString "put a 01")) en) (R.ok [])))))))))))))).bind fun y => addD x y).into en (setR 5 en)).andThen fun en => ((((consR (varD 0 en) (consR (cstD (.int 12) en) (consR ((lstR (consR (cstD (.int 8) en) (R.ok []))).bind fun x => ((lstR (consR (cstD (.int 24) en) (R.ok []))).bind fun x => (cstD (.int 7) en).bind fun y => mulD x y).bind fun y => addD x y) (R.ok [])))).bind m_law_draw).into en (setR 6 en)).andThen fun en => (((((((getC 6 en).bind fun x => (cstD (.int 0) en).bind fun y => idxD x y).bind Cell.val).bind rng1D).bind fun xs => lcL (lcD ([8] : List Nat) (.nm 8) (fun en => (R.ok true)) (fun en => (((getC 5 en).bind fun x => ((getC 6 en).bind fun x => ((cstD (.int 1) en).bind fun x => (getC 8 en).bind fun y => addD x y).bind fun y => idxD x y).bind fun y => idxD x y).bind Cell.val)) xs en)).into en (setR 7 en)).andThen fun en => (((((((getC 0 en).bind lenD).bind fun x => (cstD (.int 3) en).bind fun y => modD x y).bind fun x => (cstD (.int 1) en).bind fun y => eqD x y).bind asB).into en fun b => if b = true then (((getC 2 en).bind fun x => ((getC 7 en).bind fun x => (R.ok none).bind fun l => ((cstD (.int 1) en).bind asI).bind fun u => sliceA x l u).bind fun y => addD x y).into en (setR 7 en)) else (Out.nx en)).andThen fun en => (((consR ((consR (((cstD (.str (PySem.Str.ofString "\n")) en).bind strC).bind fun x => (getC 7 en).bind fun y => joinD x y) (R.ok [])).bind m_law_parsed) (consR ((consR (((cstD (.str (PySem.Str.ofString "\n")) en).bind strC).bind fun x => (getC 7 en).bind fun y => joinD x y) (R.ok [])).bind m_law_due) (R.ok []))).bind (m_law_alike 12)).into en .rt)))))))))))
def m_law : List D → R Cell := runD 9 1 g_law
end
end K94
namespace K94
open DL L2
/-! ### the script's cells, the draws -/
def cell (ns : List Int) (k : Nat) : Int := ns.getD k 0
theorem cell_ok (ns : List Int) (k : Nat) : m_law_cell [.list (ns.map PySem.PyData.int), .int (k : Int)] = .ok (.d (.int (cell ns k))) := by
  unfold m_law_cell runD g_law_cell
  simp [startD, intB_int]
  by_cases h : k < ns.length
  · have e : (ns.map PySem.PyData.int)[k]? = some (.int (cell ns k)) := by
      rw [List.getElem?_map, List.getElem?_eq_getElem h]
      simp [cell, h]
    rw [if_pos h, idx_list e]
    rfl
  · rw [if_neg h]
    simp [cell, h]
/-- drawn numbers: one below each size -/
def Below (ds szs : List Int) : Prop := ds.length = szs.length ∧ ∀ (m : Nat) (v : Int), ds[m]? = some v → ∃ s, szs[m]? = some s ∧ 0 ≤ v ∧ v < s
theorem below_more {ds szs : List Int} {s v : Int} (hl : ∀ (m : Nat) (v : Int), ds[m]? = some v → ∃ s, szs[m]? = some s ∧ 0 ≤ v ∧ v < s) (hs : szs[ds.length]? = some s) (h0 : 0 ≤ v) (h1 : v < s) : ∀ (m : Nat) (u : Int), (ds ++ [v])[m]? = some u → ∃ s, szs[m]? = some s ∧ 0 ≤ u ∧ u < s := fun m u h => by
  by_cases hm : m < ds.length
  · rw [List.getElem?_append_left hm] at h
    exact hl m u h
  · rw [List.getElem?_append_right (by omega)] at h
    by_cases he : m = ds.length
    · subst he
      rw [Nat.sub_self] at h
      cases h
      exact ⟨s, hs, h0, h1⟩
    · rw [show m - ds.length = (m - ds.length - 1) + 1 by omega] at h
      simp at h
theorem get_map_int {szs : List Int} {i : Nat} {x : D} (h : (szs.map PySem.PyData.int)[i]? = some x) : ∃ s, szs[i]? = some s ∧ x = .int s := by
  rw [List.getElem?_map, Option.map_eq_some_iff] at h
  obtain ⟨s, h1, h2⟩ := h
  exact ⟨s, h1, h2.symm⟩
theorem run1 (ns : List Int) (k : Nat) (szs : List Int) (hk : k ≤ 1000) (hz : szs.length ≤ 1000) (hp : ∀ s ∈ szs, 0 < s ∧ s < 1073741824) : ∀ (c : Int) (x5 x6 x7 : Cell), ∃ (c' : Int) (ds : List Int) (y5 y6 y7 : Cell), forD (turnD (.nm 7) l0_law_draw) (szs.map PySem.PyData.int) [.d (.list (ns.map PySem.PyData.int)), .d (.int k), .d (.list (szs.map PySem.PyData.int)), .d (.int c), .own [], x5, x6, x7] = .nx [.d (.list (ns.map PySem.PyData.int)), .d (.int k), .d (.list (szs.map PySem.PyData.int)), .d (.int c'), .own (ds.map PySem.PyData.int), y5, y6, y7] ∧ Below ds szs := by
  intro c x5 x6 x7
  obtain ⟨e', h1, h2⟩ := forD_ind (g := turnD (.nm 7) l0_law_draw) (xs := szs.map PySem.PyData.int) (e := [.d (.list (ns.map PySem.PyData.int)), .d (.int k), .d (.list (szs.map PySem.PyData.int)), .d (.int c), .own [], x5, x6, x7]) (P := fun i e => ∃ (c' : Int) (ds : List Int) (y5 y6 y7 : Cell), e = [.d (.list (ns.map PySem.PyData.int)), .d (.int k), .d (.list (szs.map PySem.PyData.int)), .d (.int c'), .own (ds.map PySem.PyData.int), y5, y6, y7] ∧ ds.length = i ∧ ∀ (m : Nat) (v : Int), ds[m]? = some v → ∃ s, szs[m]? = some s ∧ 0 ≤ v ∧ v < s)
    ⟨c, [], x5, x6, x7, rfl, rfl, fun m v h => by simp at h⟩ (fun i x e hx hP => by
      obtain ⟨c', ds, y5, y6, y7, rfl, hl, hb⟩ := hP
      obtain ⟨s, hs, rfl⟩ := get_map_int hx
      obtain ⟨p1, p2⟩ := hp s (List.mem_of_getElem? hs)
      have hi : i < szs.length := (List.getElem?_eq_some_iff.mp hs).1
      refine ⟨[.d (.list (ns.map PySem.PyData.int)), .d (.int k), .d (.list (szs.map PySem.PyData.int)), .d (.int (c' / s)), .own ((ds ++ [c' % s]).map PySem.PyData.int), y5, y6, .d (.int s)], ?_, c' / s, ds ++ [c' % s], y5, y6, .d (.int s), rfl, by simp [hl], ?_⟩
      · have hlt : ds.length < 16777216 := by omega
        simp [l0_law_draw, modD_int p1, divD_int ⟨p1, p2⟩, setR, hlt]
      · exact below_more hb (by rw [hl]; exact hs) (Int.emod_nonneg _ (by omega)) (Int.emod_lt_of_pos _ p1))
  obtain ⟨c', ds, y5, y6, y7, rfl, hl, hb⟩ := h2
  exact ⟨c', ds, y5, y6, y7, h1, by rw [hl, List.length_map], hb⟩
theorem run2 (ns : List Int) (k : Nat) (szs : List Int) (hk : k ≤ 1000) (hz : szs.length ≤ 1000) (hp : ∀ s ∈ szs, 0 < s ∧ s < 1073741824) : ∀ (c m0 : Int) (x6 x7 : Cell), 0 ≤ m0 → m0 < 2147483647 → ∃ (ds : List Int) (y5 y6 : Cell), forD (turnD (.nm 6) l1_law_draw) (upFrom 0 szs.length) [.d (.list (ns.map PySem.PyData.int)), .d (.int k), .d (.list (szs.map PySem.PyData.int)), .d (.int c), .own [], .d (.int m0), x6, x7] = .nx [.d (.list (ns.map PySem.PyData.int)), .d (.int k), .d (.list (szs.map PySem.PyData.int)), .d (.int c), .own (ds.map PySem.PyData.int), y5, y6, x7] ∧ Below ds szs := by
  intro c m0 x6 x7 hm0 hm1
  obtain ⟨e', h1, h2⟩ := forD_ind (g := turnD (.nm 6) l1_law_draw) (xs := upFrom 0 szs.length) (e := [.d (.list (ns.map PySem.PyData.int)), .d (.int k), .d (.list (szs.map PySem.PyData.int)), .d (.int c), .own [], .d (.int m0), x6, x7]) (P := fun i e => ∃ (m : Int) (ds : List Int) (y6 : Cell), e = [.d (.list (ns.map PySem.PyData.int)), .d (.int k), .d (.list (szs.map PySem.PyData.int)), .d (.int c), .own (ds.map PySem.PyData.int), .d (.int m), y6, x7] ∧ 0 ≤ m ∧ m < 2147483647 ∧ ds.length = i ∧ ∀ (m : Nat) (v : Int), ds[m]? = some v → ∃ s, szs[m]? = some s ∧ 0 ≤ v ∧ v < s)
    ⟨m0, [], x6, rfl, hm0, hm1, rfl, fun m v h => by simp at h⟩ (fun i x e hx hP => by
      obtain ⟨m, ds, y6, rfl, q0, q1, hl, hb⟩ := hP
      obtain ⟨hi, rfl⟩ := up_get hx
      obtain ⟨s, hs⟩ : ∃ s, szs[i]? = some s := ⟨_, List.getElem?_eq_getElem hi⟩
      obtain ⟨p1, p2⟩ := hp s (List.mem_of_getElem? hs)
      have hlt : ds.length < 16777216 := by omega
      have es : (szs.map PySem.PyData.int)[i]? = some (.int s) := by rw [List.getElem?_map, hs]; rfl
      have ex := idx_list (xs := szs.map PySem.PyData.int) es
      refine ⟨[.d (.list (ns.map PySem.PyData.int)), .d (.int k), .d (.list (szs.map PySem.PyData.int)), .d (.int c), .own ((ds ++ [((((m * 48271 + 11 + (i : Int)) % 2147483647) * 69621 + 3) % 2147483647) / 7 % s]).map PySem.PyData.int), .d (.int ((((m * 48271 + 11 + (i : Int)) % 2147483647) * 69621 + 3) % 2147483647)), .d (.int (i : Int)), x7], ?_, _, _, _, rfl, Int.emod_nonneg _ (by decide), Int.emod_lt_of_pos _ (by decide), by simp [hl], ?_⟩
      · have b1 := Int.emod_nonneg (m * 48271 + 11 + (i : Int)) (show (2147483647 : Int) ≠ 0 by decide)
        have b2 := Int.emod_lt_of_pos (m * 48271 + 11 + (i : Int)) (show (0 : Int) < 2147483647 by decide)
        have hm1 := mulD_int (i := m) (j := 48271) (.inr (by decide))
        have hm2 := mulD_int (i := (m * 48271 + 11 + (i : Int)) % 2147483647) (j := 69621) (.inr (by decide))
        have hd1 := modD_int (i := m * 48271 + 11 + (i : Int)) (j := 2147483647) (by decide)
        have hd2 := modD_int (i := (m * 48271 + 11 + (i : Int)) % 2147483647 * 69621 + 3) (j := 2147483647) (by decide)
        have hd3 := divD_int (i := ((m * 48271 + 11 + (i : Int)) % 2147483647 * 69621 + 3) % 2147483647) (j := 7) (by decide)
        have hd4 := modD_int (i := ((m * 48271 + 11 + (i : Int)) % 2147483647 * 69621 + 3) % 2147483647 / 7) (j := s) p1
        simp [l1_law_draw, hm1, hm2, hd1, hd2, hd3, hd4, ex, setR, hlt]
      · exact below_more hb (by rw [hl]; exact hs) (Int.emod_nonneg _ (by omega)) (Int.emod_lt_of_pos _ p1))
  obtain ⟨m, ds, y6, rfl, _, _, hl, hb⟩ := h2
  have el : (upFrom 0 szs.length).length = szs.length := by simp [upFrom]
  exact ⟨ds, _, y6, h1, by rw [hl, el], hb⟩
theorem modP (i : Int) : ∃ m, modD (.d (.int i)) (.d (.int 2147483647)) = .ok (.d (.int m)) ∧ 0 ≤ m ∧ m < 2147483647 :=
  ⟨i % 2147483647, modD_int (by decide), Int.emod_nonneg _ (by decide), Int.emod_lt_of_pos _ (by decide)⟩
theorem draw_ok (ns : List Int) (k : Nat) (szs : List Int) (hk : k ≤ 1000) (hz : szs.length ≤ 1000) (hp : ∀ s ∈ szs, 0 < s ∧ s < 1073741824) : ∃ ds : List Int, m_law_draw [.list (ns.map PySem.PyData.int), .int (k : Int), .list (szs.map PySem.PyData.int)] = .ok (.own (ds.map PySem.PyData.int)) ∧ Below ds szs := by
  unfold m_law_draw runD g_law_draw
  have run1 := run1 ns k szs hk hz hp
  have run2 := run2 ns k szs hk hz hp
  have pw : powD (.d (.int 10)) (.d (.int 18)) = .ok (.d (.int (10 ^ 18))) := rfl
  have l0 : lstR (.ok []) = .ok (.own []) := lstR_ok (by decide)
  have m1 : mulD (.d (.int 31)) (.d (.int (k : Int))) = .ok (.d (.int (31 * k))) := mulD_int (.inl (by decide))
  have r1 : rng1D (.d (.int (szs.length : Int))) = .ok (upFrom 0 szs.length) := rng1_nat (by omega)
  simp [startD, cell_ok, pw, l0, m1, r1, setR]
  split
  · generalize (-cell ns k) = c
    clear pw l0
    generalize (1000000000000000000 : Int) = B
    by_cases hc : B ≤ c
    · obtain ⟨c', ds, y5, y6, y7, h1, h2⟩ := run1 (c - B) .un .un .un
      refine ⟨ds, ?_, h2⟩
      simp -implicitDefEqProofs [hc, h1, setR]
    · obtain ⟨m0, hd, q1, q2⟩ := modP (c + 1 + 31 * k)
      obtain ⟨ds, y5, y6, h1, h2⟩ := run2 c m0 .un .un q1 q2
      refine ⟨ds, ?_, h2⟩
      simp -implicitDefEqProofs [hc, h1, setR, m1, hd, r1]
  · generalize (cell ns k) = c
    clear pw l0
    generalize (1000000000000000000 : Int) = B
    by_cases hc : B ≤ c
    · obtain ⟨c', ds, y5, y6, y7, h1, h2⟩ := run1 (c - B) .un .un .un
      refine ⟨ds, ?_, h2⟩
      simp -implicitDefEqProofs [hc, h1, setR]
    · obtain ⟨m0, hd, q1, q2⟩ := modP (c + 1 + 31 * k)
      obtain ⟨ds, y5, y6, h1, h2⟩ := run2 c m0 .un .un q1 q2
      refine ⟨ds, ?_, h2⟩
      simp -implicitDefEqProofs [hc, h1, setR, m1, hd, r1]
end K94
namespace K94
open PySem (Str)
open DL L2
/-! ### the deeds and their lines -/
def T (s : String) : Str := Str.ofString s
def names : List Str := [T "a", T "bee", T "c-3", T "lost"]
def texts : List Str := [T "", T "const a = 1;", T "x\ny", T "\n\nz "]
def RD : List (List (Option Int)) := [] :: ((List.range 9).map fun i : Nat => [some ((i : Int) - 4)]) ++ ((List.range 9).map fun i : Nat => [none, some ((i : Int) * 1000)]) ++ ((List.range 9).map fun i : Nat => [some 0, none, some ((i : Int) - 9)]) ++ [[none]]
def optI : Option Int → D
  | none => .none
  | some i => .int i
def dd : Nat × Nat × Nat → D
  | (0, a, b) => .tuple [.str (T "put"), .str (names.getD a (T "")), .str (texts.getD b (T ""))]
  | (1, a, _) => .tuple [.str (T "drop"), .str (names.getD a (T ""))]
  | (3, a, r) => .tuple [.str (T "read"), .str (names.getD a (T "")), .tuple ((RD.getD r []).map optI)]
  | _ => .tuple [.str (T "back")]
def DEEDS : List (Nat × Nat × Nat) := ((List.range 4).flatMap fun a => (List.range 4).map fun b => (0, a, b)) ++ ((List.range 4).map fun a => (1, a, 0)) ++ [(2, 0, 0)] ++ ((List.range 4).flatMap fun a => (List.range 29).map fun r => (3, a, r))
theorem deed_put : ∀ a < 4, ∀ b < 4, (0, a, b) ∈ DEEDS := by decide +kernel
theorem deed_drop : ∀ a < 4, (1, a, 0) ∈ DEEDS := by decide +kernel
theorem deed_back : (2, 0, 0) ∈ DEEDS := by decide +kernel
theorem deed_read : ∀ a < 4, ∀ r < 29, (3, a, r) ∈ DEEDS := by decide +kernel
theorem draw_any (ns : List Int) (k : Int) (szs : List Int) (h0 : 0 ≤ k) (h1 : k ≤ 1000) (hz : szs.length ≤ 1000) (hp : ∀ s ∈ szs, 0 < s ∧ s < 1073741824) : ∃ ds : List Int, m_law_draw [.list (ns.map PySem.PyData.int), .int k, .list (szs.map PySem.PyData.int)] = .ok (.own (ds.map PySem.PyData.int)) ∧ Below ds szs := by
  obtain ⟨n, rfl⟩ := Int.eq_ofNat_of_zero_le h0
  exact draw_ok ns n szs (by omega) hz hp
theorem below_get {ds szs : List Int} (h : Below ds szs) {i : Nat} {s : Int} (hi : szs[i]? = some s) : ∃ v : Nat, ds[i]? = some (v : Int) ∧ (v : Int) < s := by
  have h1 : i < ds.length := by rw [h.1]; exact (List.getElem?_eq_some_iff.mp hi).1
  obtain ⟨s', a, b, c⟩ := h.2 i ds[i] (List.getElem?_eq_getElem h1)
  rw [hi] at a
  cases a
  obtain ⟨v, hv⟩ := Int.eq_ofNat_of_zero_le b
  exact ⟨v, by rw [List.getElem?_eq_getElem h1, hv], by omega⟩
theorem draw_get {ds : List Int} {i : Nat} {v : Int} (h : ds[i]? = some v) : idxD (.own (ds.map PySem.PyData.int)) (.d (.int (i : Int))) = .ok (.d (.int v)) := idx_own (by rw [List.getElem?_map, h]; rfl)
theorem idx_names {v : Nat} (h : v < 4) : idxD (.own (names.map PySem.PyData.str)) (.d (.int (v : Int))) = .ok (.d (.str (names.getD v (T "")))) := by
  refine idx_own ?_
  rw [List.getElem?_map, List.getD_eq_getElem?_getD, List.getElem?_eq_getElem (show v < names.length from h)]
  rfl
theorem idx_texts {v : Nat} (h : v < 4) : idxD (.own (texts.map PySem.PyData.str)) (.d (.int (v : Int))) = .ok (.d (.str (texts.getD v (T "")))) := by
  refine idx_own ?_
  rw [List.getElem?_map, List.getD_eq_getElem?_getD, List.getElem?_eq_getElem (show v < texts.length from h)]
  rfl
theorem rd1 : ∀ i : Nat, i < 9 → RD.getD (1 + i) [] = [some ((i : Int) - 4)] := by decide +kernel
theorem rd2 : ∀ i : Nat, i < 9 → RD.getD (10 + i) [] = [none, some ((i : Int) * 1000)] := by decide +kernel
theorem rd3 : ∀ i : Nat, i < 9 → RD.getD (19 + i) [] = [some 0, none, some ((i : Int) - 9)] := by decide +kernel
theorem rd4 : RD.getD 28 [] = [none] := by decide +kernel
theorem lstR_names : lstR (.ok [PySem.PyData.str (T "a"), .str (T "bee"), .str (T "c-3"), .str (T "lost")]) = .ok (.own (names.map PySem.PyData.str)) := lstR_ok (by decide)
theorem lstR_texts : lstR (.ok [PySem.PyData.str (T ""), .str (T "const a = 1;"), .str (T "x\ny"), .str (T "\n\nz ")]) = .ok (.own (texts.map PySem.PyData.str)) := lstR_ok (by decide)
theorem some_deed_ok (ns : List Int) (k : Int) (h0 : 0 ≤ k) (h1 : k ≤ 900) : ∃ d ∈ DEEDS, m_law_some_deed [.list (ns.map PySem.PyData.int), .int k] = .ok (.d (dd d)) := by
  obtain ⟨ds, hd, hb⟩ := draw_any ns k [4, 4, 4, 5, 9, 9] h0 (by omega) (by decide) (by intro s hs; simp at hs; omega)
  obtain ⟨v0, g0, b0⟩ := below_get hb (i := 0) (s := 4) rfl
  obtain ⟨v1, g1, b1⟩ := below_get hb (i := 1) (s := 4) rfl
  obtain ⟨v2, g2, b2⟩ := below_get hb (i := 2) (s := 4) rfl
  obtain ⟨v3, g3, b3⟩ := below_get hb (i := 3) (s := 5) rfl
  obtain ⟨v4, g4, b4⟩ := below_get hb (i := 4) (s := 9) rfl
  obtain ⟨v5, g5, b5⟩ := below_get hb (i := 5) (s := 9) rfl
  have j0 : idxD (.own (ds.map PySem.PyData.int)) (.d (.int 0)) = .ok (.d (.int (v0 : Int))) := draw_get (i := 0) g0
  have j1 : idxD (.own (ds.map PySem.PyData.int)) (.d (.int 1)) = .ok (.d (.int (v1 : Int))) := draw_get (i := 1) g1
  have j2 : idxD (.own (ds.map PySem.PyData.int)) (.d (.int 2)) = .ok (.d (.int (v2 : Int))) := draw_get (i := 2) g2
  have j3 : idxD (.own (ds.map PySem.PyData.int)) (.d (.int 3)) = .ok (.d (.int (v3 : Int))) := draw_get (i := 3) g3
  have j4 : idxD (.own (ds.map PySem.PyData.int)) (.d (.int 4)) = .ok (.d (.int (v4 : Int))) := draw_get (i := 4) g4
  have j5 : idxD (.own (ds.map PySem.PyData.int)) (.d (.int 5)) = .ok (.d (.int (v5 : Int))) := draw_get (i := 5) g5
  have n1 := idx_names (v := v1) (by omega)
  have n2 := idx_texts (v := v2) (by omega)
  have l6 : lstR (.ok [PySem.PyData.int 4, .int 4, .int 4, .int 5, .int 9, .int 9]) = .ok (.own [.int 4, .int 4, .int 4, .int 5, .int 9, .int 9]) := lstR_ok (by decide)
  have t1 : ∀ a : D, tupR (.ok [a]) = .ok (.d (.tuple [a])) := fun a => tupR_ok (by simp)
  have t2 : ∀ a b : D, tupR (.ok [a, b]) = .ok (.d (.tuple [a, b])) := fun a b => tupR_ok (by simp)
  have t3 : ∀ a b c : D, tupR (.ok [a, b, c]) = .ok (.d (.tuple [a, b, c])) := fun a b c => tupR_ok (by simp)
  have t0 : tupR (.ok []) = .ok (.d (.tuple [])) := tupR_ok (by decide)
  have t5 : ∀ a b c d e : D, tupR (.ok [a, b, c, d, e]) = .ok (.d (.tuple [a, b, c, d, e])) := fun a b c d e => tupR_ok (by simp)
  have ln := lstR_names
  have lt := lstR_texts
  have m1 : mulD (.d (.int (v4 : Int))) (.d (.int 1000)) = .ok (.d (.int ((v4 : Int) * 1000))) := mulD_int (.inr (by decide))
  have mk : ∀ s : String, PySem.Str.ofString s = T s := fun _ => rfl
  have e0 := int_eqD (i := (v0 : Int)) (j := 0)
  have e1 := int_eqD (i := (v0 : Int)) (j := 1)
  have e2 := int_eqD (i := (v0 : Int)) (j := 2)
  simp at hd
  generalize hN : names.map PySem.PyData.str = NM at *
  generalize hT : texts.map PySem.PyData.str = TX at *
  unfold m_law_some_deed runD g_law_some_deed
  by_cases c0 : v0 = 0
  · rw [decide_eq_true (by omega)] at e0
    refine ⟨(0, v1, v2), deed_put v1 (by omega) v2 (by omega), ?_⟩
    simp -implicitDefEqProofs [-List.getD_eq_getElem?_getD, startD, mk, setR, l6, hd, j0, j1, j2, ln, lt, n1, n2, e0, t3, dd]
  · rw [decide_eq_false (by omega)] at e0
    by_cases c1 : v0 = 1
    · rw [decide_eq_true (by omega)] at e1
      refine ⟨(1, v1, 0), deed_drop v1 (by omega), ?_⟩
      simp -implicitDefEqProofs [-List.getD_eq_getElem?_getD, startD, mk, setR, l6, hd, j0, j1, j2, ln, n1, e0, e1, t2, dd]
    · rw [decide_eq_false (by omega)] at e1
      by_cases c2 : v0 = 2
      · rw [decide_eq_true (by omega)] at e2
        refine ⟨(2, 0, 0), deed_back, ?_⟩
        simp -implicitDefEqProofs [-List.getD_eq_getElem?_getD, startD, mk, setR, l6, hd, j0, j1, j2, ln, n1, e0, e1, e2, t1, dd]
      · rw [decide_eq_false (by omega)] at e2
        have pick : ∀ (x0 x1 x2 x3 x4 : D), idxD (.d (.tuple [x0, x1, x2, x3, x4])) (.d (.int (v3 : Int))) = .ok (.d ([x0, x1, x2, x3, x4].getD v3 .none)) := fun x0 x1 x2 x3 x4 => by
          refine idx_tuple ?_
          rw [List.getD_eq_getElem?_getD, List.getElem?_eq_getElem (show v3 < [x0, x1, x2, x3, x4].length by simp; omega)]
          rfl
        have go : ∃ r < 29, [PySem.PyData.tuple [], .tuple [.int ((v4 : Int) - 4)], .tuple [.none, .int ((v4 : Int) * 1000)], .tuple [.int 0, .none, .int ((v5 : Int) - 9)], .tuple [.none]].getD v3 .none = .tuple ((RD.getD r []).map optI) := by
          have hv : v3 = 0 ∨ v3 = 1 ∨ v3 = 2 ∨ v3 = 3 ∨ v3 = 4 := by omega
          rcases hv with rfl | rfl | rfl | rfl | rfl
          · exact ⟨0, by decide, rfl⟩
          · exact ⟨1 + v4, by omega, by rw [rd1 v4 (by omega)]; rfl⟩
          · exact ⟨10 + v4, by omega, by rw [rd2 v4 (by omega)]; rfl⟩
          · exact ⟨19 + v5, by omega, by rw [rd3 v5 (by omega)]; rfl⟩
          · exact ⟨28, by decide, by rw [rd4]; rfl⟩
        obtain ⟨r, hr, er⟩ := go
        refine ⟨(3, v1, r), deed_read v1 (by omega) r hr, ?_⟩
        simp -implicitDefEqProofs [-List.getD_eq_getElem?_getD, startD, mk, setR, l6, hd, j0, j1, j2, j3, j4, j5, ln, n1, e0, e1, e2, t0, t1, t2, t3, t5, m1, pick, er, dd]
end K94
namespace K94
open PySem (Str)
open DL L2
/-! ### lines, their classes -/
def strsR (r : R Cell) : Option (List Str) := match r with
  | .ok (.own xs) => strsD xs
  | _ => none
theorem strsD_is : ∀ {xs : List D} {ys : List Str}, strsD xs = some ys → xs = ys.map PySem.PyData.str
  | [], ys, h => by cases h; rfl
  | x :: xs, ys, h => by
    cases x with
    | str s =>
      unfold strsD at h
      cases q : strsD xs with
      | none => rw [q] at h; cases h
      | some zs =>
        rw [q] at h
        cases h
        rw [strsD_is q]; rfl
    | _ => cases h
theorem strsR_is {r : R Cell} {ys : List Str} (h : strsR r = some ys) : r = .ok (.own (ys.map PySem.PyData.str)) := by
  unfold strsR at h
  split at h
  · rw [strsD_is h]
  · cases h
def linesOf (d : Nat × Nat × Nat) : List Str := (strsR (m_law_deed_lines [dd d])).getD []
theorem lines_law : ∀ d ∈ DEEDS, strsR (m_law_deed_lines [dd d]) = some (linesOf d) := by decide +kernel
theorem lines_prog : ∀ d ∈ DEEDS, strsR (m_print_deed [dd d]) = some (linesOf d) := by decide +kernel
def POOL : List Str := [T "put a 1", T "|const a = 1;", T "|", T "put b 2", T "drop a", T "back", T "read a 1 -2 lost", T "read a", T "read  a 1", T "drop", T "put a 0", T "put a",
  T "read a x", T "read b -", T "back ", T " back", T "", T "drop a b", T "put c 123456789012345678901", T "drop \t", T "read a 1 ", T "keep a", T "read a 007 -0", T "put a 01"]
def LINES : List Str := POOL ++ DEEDS.flatMap linesOf
def plain (s : Str) : Bool := decide (10 ∉ s.cps.toList) && decide (s.length ≤ 60) && PySem.SeqAt.shaped (.str s)
theorem lines_plain : ∀ s ∈ LINES, plain s = true := by decide +kernel
theorem lines_some : ∀ d ∈ DEEDS, linesOf d ≠ [] ∧ (linesOf d).length ≤ 4 := by decide +kernel
/-- tag, name, items, how many -/
abbrev Cls := Nat × Str × List (Option Int) × Nat
def bad : Cls := (0, T "", [], 0)
def labOf (w : Str) : Option Bool := match m_is_label [.str w] with
  | .ok (.d (.bool b)) => some b
  | _ => none
def digOf (w : Str) : Option (Option Int) := match m_digits_of [.str w] with
  | .ok (.d .none) => some none
  | .ok (.d (.int i)) => some (some i)
  | _ => none
def unI : List D → Option (List (Option Int))
  | [] => some []
  | .none :: r => (unI r).map (none :: ·)
  | .int i :: r => (unI r).map (some i :: ·)
  | _ :: _ => none
def rdgOf (ws : List Str) : Option (Option (List (Option Int))) := match m_parse_reading [.list (ws.map PySem.PyData.str)] with
  | .ok (.d .none) => some none
  | .ok (.d (.tuple xs)) => (unI xs).map some
  | _ => none
theorem unI_is : ∀ {xs : List D} {l : List (Option Int)}, unI xs = some l → xs = l.map optI
  | [], l, h => by cases h; rfl
  | x :: xs, l, h => by
    cases x with
    | none =>
      unfold unI at h
      cases q : unI xs with
      | none => rw [q] at h; cases h
      | some zs => rw [q] at h; cases h; rw [unI_is q]; rfl
    | int i =>
      unfold unI at h
      cases q : unI xs with
      | none => rw [q] at h; cases h
      | some zs => rw [q] at h; cases h; rw [unI_is q]; rfl
    | _ => cases h
theorem lab_is {w : Str} {b : Bool} (h : labOf w = some b) : m_is_label [.str w] = .ok (.d (.bool b)) := by
  unfold labOf at h
  split at h
  · rename_i e; cases h; exact e
  · cases h
theorem dig_none {w : Str} (h : digOf w = some none) : m_digits_of [.str w] = .ok (.d .none) := by
  unfold digOf at h
  split at h
  · assumption
  · cases h
  · cases h
theorem dig_some {w : Str} {i : Int} (h : digOf w = some (some i)) : m_digits_of [.str w] = .ok (.d (.int i)) := by
  unfold digOf at h
  split at h
  · cases h
  · rename_i e; cases h; exact e
  · cases h
theorem rdg_none {ws : List Str} (h : rdgOf ws = some none) : m_parse_reading [.list (ws.map PySem.PyData.str)] = .ok (.d .none) := by
  unfold rdgOf at h
  split at h
  · assumption
  · rename_i xs e
    cases q : unI xs with
    | none => rw [q] at h; cases h
    | some l => rw [q] at h; cases h
  · cases h
theorem rdg_some {ws : List Str} {l : List (Option Int)} (h : rdgOf ws = some (some l)) : m_parse_reading [.list (ws.map PySem.PyData.str)] = .ok (.d (.tuple (l.map optI))) := by
  unfold rdgOf at h
  split at h
  · cases h
  · rename_i xs e
    cases q : unI xs with
    | none => rw [q] at h; cases h
    | some l' =>
      rw [q] at h
      cases h
      rw [e, unI_is q]
  · cases h
def wordsOf (s : Str) : List Str := PySem.Txt.split s (T " ")
def okW (ws : List Str) : Bool := ws.all fun w => PySem.SeqAt.shaped (.str w)
/-- the program's class of a line -/
def pcW (ws : List Str) : Option Cls := if okW ws = true then match ws with
  | [] => none
  | w0 :: r =>
    if w0 = T "put" then match r with
      | [w1, w2] => match labOf w1 with
        | some true => match digOf w2 with
          | some none => some bad
          | some (some i) => if i = 0 then some bad else if 0 < i ∧ i < 4 then some (4, w1, [], i.toNat) else none
          | none => none
        | some false => some bad
        | none => none
      | _ => some bad
    else if w0 = T "back" ∧ r = [] then some (1, T "", [], 0)
    else match r with
      | [] => some bad
      | w1 :: r2 => match labOf w1 with
        | some true => if w0 = T "drop" ∧ r2 = [] then some (2, w1, [], 0) else if w0 = T "read" then match rdgOf r2 with
            | some (some l) => some (3, w1, l, 0)
            | some none => some bad
            | none => none
          else some bad
        | some false => some bad
        | none => none
  else none
/-- the law's -/
def llabOf (ws : List Str) : Option Bool := match m_law_label [.list (ws.map PySem.PyData.str)] with
  | .ok (.d (.bool b)) => some b
  | _ => none
def ldigOf (w : Str) : Option Bool := match m_law_digits [.str w] with
  | .ok (.d (.bool b)) => some b
  | _ => none
def lintOf (w : Str) : Option Int := match intD (.d (.str w)) with
  | .ok (.d (.int i)) => some i
  | _ => none
def litOf (ws : List Str) : Option (Option (List (Option Int))) := match m_law_items [.list (ws.map PySem.PyData.str)] with
  | .ok (.d .none) => some none
  | .ok (.d (.tuple xs)) => (unI xs).map some
  | _ => none
theorem llab_is {ws : List Str} {b : Bool} (h : llabOf ws = some b) : m_law_label [.list (ws.map PySem.PyData.str)] = .ok (.d (.bool b)) := by
  unfold llabOf at h
  split at h
  · rename_i e; cases h; exact e
  · cases h
theorem ldig_is {w : Str} {b : Bool} (h : ldigOf w = some b) : m_law_digits [.str w] = .ok (.d (.bool b)) := by
  unfold ldigOf at h
  split at h
  · rename_i e; cases h; exact e
  · cases h
theorem lint_is {w : Str} {i : Int} (h : lintOf w = some i) : intD (.d (.str w)) = .ok (.d (.int i)) := by
  unfold lintOf at h
  split at h
  · rename_i e; cases h; exact e
  · cases h
theorem lit_none {ws : List Str} (h : litOf ws = some none) : m_law_items [.list (ws.map PySem.PyData.str)] = .ok (.d .none) := by
  unfold litOf at h
  split at h
  · assumption
  · rename_i xs e
    cases q : unI xs with
    | none => rw [q] at h; cases h
    | some l => rw [q] at h; cases h
  · cases h
theorem lit_some {ws : List Str} {l : List (Option Int)} (h : litOf ws = some (some l)) : m_law_items [.list (ws.map PySem.PyData.str)] = .ok (.d (.tuple (l.map optI))) := by
  unfold litOf at h
  split at h
  · cases h
  · rename_i xs e
    cases q : unI xs with
    | none => rw [q] at h; cases h
    | some l' =>
      rw [q] at h
      cases h
      rw [e, unI_is q]
  · cases h
def lcW (ws : List Str) : Option Cls := if okW ws = true then match ws with
  | [] => none
  | w0 :: r =>
    if w0 = T "back" ∧ r = [] then some (1, T "", [], 0)
    else match llabOf (w0 :: r) with
      | none => none
      | some false => some bad
      | some true => match r with
        | [] => none
        | w1 :: r2 =>
          if w0 = T "drop" ∧ r2 = [] then some (2, w1, [], 0)
          else if w0 = T "read" then match litOf r2 with
            | some (some l) => some (3, w1, l, 0)
            | some none => some bad
            | none => none
          else if w0 = T "put" then match r2 with
            | [w2] => match ldigOf w2 with
              | none => none
              | some false => some bad
              | some true => match lintOf w2 with
                | none => none
                | some i => if i = 0 then some bad else if 0 < i ∧ i < 4 then some (4, w1, [], i.toNat) else none
            | _ => some bad
          else some bad
  else none
def sameC (a b : Option Cls) : Bool := match a, b with
  | some x, some y => decide (x = y)
  | _, _ => false
theorem same_all : ∀ s ∈ LINES, sameC (pcW (wordsOf s)) (lcW (wordsOf s)) = true := by decide +kernel
theorem same_class {s : Str} (h : s ∈ LINES) : ∃ c : Cls, pcW (wordsOf s) = some c ∧ lcW (wordsOf s) = some c := by
  have e := same_all s h
  cases q1 : pcW (wordsOf s) with
  | none => rw [q1] at e; cases e
  | some x => cases q2 : lcW (wordsOf s) with
    | none => rw [q1, q2] at e; cases e
    | some y =>
      rw [q1, q2] at e
      have : x = y := of_decide_eq_true e
      exact ⟨x, rfl, by rw [this]⟩
end K94
namespace K94
open PySem (Str)
open DL L2
/-! ### the lines of a put -/
def hd (s : Str) : Str := cutS s none (some 1)
def tl (s : Str) : Str := cutS s (some 1) none
theorem lines_cut : ∀ s ∈ LINES, PySem.SeqAt.shaped (.str (hd s)) = true ∧ (tl s).length ≤ 60 ∧ 10 ∉ (tl s).cps.toList := by decide +kernel
def rowsAt : List Str → Nat → Nat → Nat ⊕ List Str
  | _, _, 0 => .inr []
  | [], k, _ + 1 => .inl (k + 1)
  | s :: r, k, m + 1 => if hd s = T "|" then match rowsAt r (k + 1) m with
    | .inl j => .inl j
    | .inr rs => .inr (tl s :: rs)
    else .inl (k + 1)
theorem rows_short : ∀ (S : List Str) (k m n : Nat), S.length < m → S.length < n → rowsAt S k m = rowsAt S k n
  | [], k, m + 1, n + 1, _, _ => rfl
  | s :: r, k, m + 1, n + 1, h1, h2 => by
    unfold rowsAt
    rw [rows_short r (k + 1) m n (by simpa using h1) (by simpa using h2)]
theorem rows_len : ∀ {S : List Str} {k m : Nat} {rs : List Str}, rowsAt S k m = .inr rs → rs.length = m ∧ rs = (S.take m).map tl ∧ m ≤ S.length
  | S, k, 0, rs, h => by
    have : rowsAt S k 0 = .inr [] := by cases S <;> rfl
    rw [this] at h
    cases h
    exact ⟨rfl, by simp, Nat.zero_le _⟩
  | [], k, m + 1, rs, h => by cases h
  | s :: r, k, m + 1, rs, h => by
    unfold rowsAt at h
    split at h
    · cases q : rowsAt r (k + 1) m with
      | inl j => rw [q] at h; cases h
      | inr rs' =>
        rw [q] at h
        cases h
        obtain ⟨h1, h2, h3⟩ := rows_len q
        exact ⟨by rw [List.length_cons, h1], by rw [List.take_succ_cons, List.map_cons, h2], by rw [List.length_cons]; omega⟩
    · cases h
theorem cons_eq {α : Type} {a b : α} {l l' : List α} (h1 : a = b) (h2 : l = l') : a :: l = b :: l' := by rw [h1, h2]
theorem up_succ (k m : Nat) : upFrom (k : Int) (m + 1) = PySem.PyData.int (k : Int) :: upFrom ((k + 1 : Nat) : Int) m := by
  unfold upFrom
  rw [List.range_succ_eq_map, List.map_cons, List.map_map]
  refine cons_eq ?_ ?_
  · show PySem.PyData.int ((k : Int) + ((0 : Nat) : Int)) = _
    congr 1
  · refine List.map_congr_left fun i _ => ?_
    show PySem.PyData.int ((k : Int) + ((i + 1 : Nat) : Int)) = PySem.PyData.int (((k + 1 : Nat) : Int) + (i : Int))
    congr 1
    omega
theorem forD_nx {g : D → Env → Out} {x : D} {xs : List D} {e e' : Env} (h : g x e = .nx e') : forD g (x :: xs) e = forD g xs e' := by
  show (match g x e with | .nx e' => forD g xs e' | .ct e' => forD g xs e' | .bk e' => .nx e' | o => o) = _
  rw [h]
theorem forD_ex {g : D → Env → Out} {x : D} {xs : List D} {e e' : Env} {k : Str} {fs : List (Str × D)} (h : g x e = .ex k fs e') : forD g (x :: xs) e = .ex k fs e' := by
  show (match g x e with | .nx e' => forD g xs e' | .ct e' => forD g xs e' | .bk e' => .nx e' | o => o) = _
  rw [h]
theorem forD_rt {g : D → Env → Out} {x : D} {xs : List D} {e : Env} {c : Cell} (h : g x e = .rt c) : forD g (x :: xs) e = .rt c := by
  show (match g x e with | .nx e' => forD g xs e' | .ct e' => forD g xs e' | .bk e' => .nx e' | o => o) = _
  rw [h]
def txs (L : List Str) : List D := L.map PySem.PyData.str
theorem txs_get {L : List Str} {k : Nat} {s : Str} (h : L[k]? = some s) : idxD (.d (.list (txs L))) (.d (.int (k : Int))) = .ok (.d (.str s)) := by
  refine idx_list ?_
  unfold txs
  rw [List.getElem?_map, h]; rfl
theorem txs_len {L : List Str} : (txs L).length = L.length := List.length_map _
theorem bar_ok : PySem.SeqAt.shaped (.str (T "|")) = true := by decide +kernel
theorem plain_len {s : Str} (h : s ∈ LINES) : s.length ≤ 60 := by
  have := lines_plain s h
  unfold plain at this
  simp only [Bool.and_eq_true, decide_eq_true_eq] at this
  exact this.1.2
theorem plain_shaped {s : Str} (h : s ∈ LINES) : PySem.SeqAt.shaped (.str s) = true := by
  have := lines_plain s h
  unfold plain at this
  simp only [Bool.and_eq_true, decide_eq_true_eq] at this
  exact this.2
theorem hd_ok {s : Str} (h : s ∈ LINES) : sliceA (.d (.str s)) none (some 1) = .ok (.d (.str (hd s))) := sliceA_text (by have := plain_len h; omega)
theorem tl_ok {s : Str} (h : s ∈ LINES) : sliceA (.d (.str s)) (some 1) none = .ok (.d (.str (tl s))) := sliceA_text (by have := plain_len h; omega)
theorem hd_bar {s : Str} (h : s ∈ LINES) : neD (.d (.str (hd s))) (.d (.str (T "|"))) = .ok (.d (.bool (!decide (hd s = T "|")))) := str_shaped_ne (lines_cut s h).1 bar_ok
/-- the program's walk over the lines of a put -/
theorem put_walk {L : List Str} (hL : ∀ s ∈ L, s ∈ LINES) (hl : L.length ≤ 1000) {x1 x2 x3 : Cell} : ∀ (m k : Nat) (acc : List Str) (x5 : Cell), acc.length + m ≤ 5000 → k ≤ L.length →
    match rowsAt (L.drop k) k m with
    | .inr rs => ∃ y5, forD (turnD (.nm 5) l0_parse_put) (upFrom (k : Int) m) [.d (.list (txs L)), x1, x2, x3, .own (txs acc), x5] = .nx [.d (.list (txs L)), x1, x2, x3, .own (txs (acc ++ rs)), y5]
    | .inl j => ∃ e, forD (turnD (.nm 5) l0_parse_put) (upFrom (k : Int) m) [.d (.list (txs L)), x1, x2, x3, .own (txs acc), x5] = .ex (Str.ofString "BadLog") [(Str.ofString "line", .int (j : Int))] e := by
  intro m
  induction m with
  | zero =>
    intro k acc x5 _ _
    have : rowsAt (L.drop k) k 0 = .inr [] := by cases L.drop k <;> rfl
    rw [this]
    exact ⟨x5, by rw [List.append_nil]; rfl⟩
  | succ m ih =>
    intro k acc x5 ha hk
    have mk : Str.ofString "|" = T "|" := rfl
    rw [up_succ]
    by_cases hlt : k < L.length
    · have hg : L[k]? = some L[k] := List.getElem?_eq_getElem hlt
      have hm : L[k] ∈ LINES := hL _ (List.getElem_mem hlt)
      have i1 := txs_get hg
      have s1 := hd_ok hm
      have s2 := tl_ok hm
      have b1 := hd_bar hm
      rw [List.drop_eq_getElem_cons hlt]
      have lt' : ¬ (L.length : Int) ≤ (k : Int) := by omega
      generalize L[k] = s at *
      unfold rowsAt
      by_cases q : hd s = T "|"
      · rw [if_pos q]
        rw [decide_eq_true q] at b1
        have hacc : (txs acc).length < 16777216 := by rw [txs_len]; omega
        have st : turnD (.nm 5) l0_parse_put (.int (k : Int)) [.d (.list (txs L)), x1, x2, x3, .own (txs acc), x5] = .nx [.d (.list (txs L)), x1, x2, x3, .own (txs (acc ++ [tl s])), .d (.int (k : Int))] := by
          have e : txs (acc ++ [tl s]) = txs acc ++ [.str (tl s)] := by unfold txs; rw [List.map_append]; rfl
          rw [e]
          simp -implicitDefEqProofs [-Int.not_le, -Nat.not_le, l0_parse_put, mk, txs_len, lt', i1, s1, s2, b1, hacc, Nat.not_le.mpr hlt]
          rw [txs_len] at hacc
          exact Nat.not_le.mpr hacc
        have := ih (k + 1) (acc ++ [tl s]) (.d (.int (k : Int))) (by rw [List.length_append]; simp; omega) (by omega)
        rw [forD_nx st]
        cases r : rowsAt (L.drop (k + 1)) (k + 1) m with
        | inl j => rw [r] at this; exact this
        | inr rs =>
          rw [r] at this
          obtain ⟨y5, h⟩ := this
          exact ⟨y5, by rw [h, List.append_assoc]; rfl⟩
      · rw [if_neg q]
        rw [decide_eq_false q] at b1
        have st : turnD (.nm 5) l0_parse_put (.int (k : Int)) [.d (.list (txs L)), x1, x2, x3, .own (txs acc), x5] = .ex (Str.ofString "BadLog") [(Str.ofString "line", .int ((k : Int) + 1))] [.d (.list (txs L)), x1, x2, x3, .own (txs acc), .d (.int (k : Int))] := by
          simp -implicitDefEqProofs [-Int.not_le, -Nat.not_le, l0_parse_put, mk, txs_len, lt', i1, s1, s2, b1, Nat.not_le.mpr hlt]
        exact ⟨_, forD_ex st⟩
    · rw [List.drop_of_length_le (by omega)]
      have ge' : (L.length : Int) ≤ (k : Int) := by omega
      have st : turnD (.nm 5) l0_parse_put (.int (k : Int)) [.d (.list (txs L)), x1, x2, x3, .own (txs acc), x5] = .ex (Str.ofString "BadLog") [(Str.ofString "line", .int ((k : Int) + 1))] [.d (.list (txs L)), x1, x2, x3, .own (txs acc), .d (.int (k : Int))] := by
        simp -implicitDefEqProofs [l0_parse_put, txs_len, ge', Nat.le_of_not_lt hlt]
      exact ⟨_, forD_ex st⟩
/-- the law's -/
theorem law_walk {L : List Str} (hL : ∀ s ∈ L, s ∈ LINES) (hl : L.length ≤ 1000) {x1 x2 x3 x5 x6 : Cell} : ∀ (m k : Nat) (x4 : Cell), k ≤ L.length →
    match rowsAt (L.drop k) k m with
    | .inr rs => ∃ y4, forD (turnD (.nm 4) l0_law_line) (upFrom (k : Int) m) [.d (.list (txs L)), x1, x2, x3, x4, x5, x6] = .nx [.d (.list (txs L)), x1, x2, x3, y4, x5, x6]
    | .inl j => forD (turnD (.nm 4) l0_law_line) (upFrom (k : Int) m) [.d (.list (txs L)), x1, x2, x3, x4, x5, x6] = .rt (.d (.int (j : Int))) := by
  intro m
  induction m with
  | zero =>
    intro k x4 _
    have : rowsAt (L.drop k) k 0 = .inr [] := by cases L.drop k <;> rfl
    rw [this]
    exact ⟨x4, rfl⟩
  | succ m ih =>
    intro k x4 hk
    have mk : Str.ofString "|" = T "|" := rfl
    rw [up_succ]
    by_cases hlt : k < L.length
    · have hg : L[k]? = some L[k] := List.getElem?_eq_getElem hlt
      have hm : L[k] ∈ LINES := hL _ (List.getElem_mem hlt)
      have i1 := txs_get hg
      have s1 := hd_ok hm
      have b1 := hd_bar hm
      rw [List.drop_eq_getElem_cons hlt]
      have lt' : ¬ (L.length : Int) ≤ (k : Int) := by omega
      generalize L[k] = s at *
      unfold rowsAt
      by_cases q : hd s = T "|"
      · rw [if_pos q]
        rw [decide_eq_true q] at b1
        have st : turnD (.nm 4) l0_law_line (.int (k : Int)) [.d (.list (txs L)), x1, x2, x3, x4, x5, x6] = .nx [.d (.list (txs L)), x1, x2, x3, .d (.int (k : Int)), x5, x6] := by
          simp -implicitDefEqProofs [-Int.not_le, -Nat.not_le, l0_law_line, mk, txs_len, lt', i1, s1, b1, Nat.not_le.mpr hlt]
        have := ih (k + 1) (.d (.int (k : Int))) (by omega)
        rw [forD_nx st]
        cases r : rowsAt (L.drop (k + 1)) (k + 1) m with
        | inl j => rw [r] at this; exact this
        | inr rs => rw [r] at this; exact this
      · rw [if_neg q]
        rw [decide_eq_false q] at b1
        have st : turnD (.nm 4) l0_law_line (.int (k : Int)) [.d (.list (txs L)), x1, x2, x3, x4, x5, x6] = .rt (.d (.int ((k : Int) + 1))) := by
          simp -implicitDefEqProofs [-Int.not_le, -Nat.not_le, l0_law_line, mk, txs_len, lt', i1, s1, b1, Nat.not_le.mpr hlt]
        exact forD_rt st
    · rw [List.drop_of_length_le (by omega)]
      have ge' : (L.length : Int) ≤ (k : Int) := by omega
      have st : turnD (.nm 4) l0_law_line (.int (k : Int)) [.d (.list (txs L)), x1, x2, x3, x4, x5, x6] = .rt (.d (.int ((k : Int) + 1))) := by
        simp -implicitDefEqProofs [l0_law_line, txs_len, ge', Nat.le_of_not_lt hlt]
      exact forD_rt st
end K94
namespace K94
open PySem (Str)
open DL L2
/-! ### one line -/
def shapedS (w : Str) : Prop := PySem.SeqAt.shaped (.str w) = true
theorem ok_all {ws : List Str} (h : okW ws = true) : ∀ w ∈ ws, shapedS w := fun w hw => List.all_eq_true.mp h w hw
theorem txs_lay {ws : List Str} (h : ∀ w ∈ ws, shapedS w) : PySem.PyData.canLayAll0 (txs ws) = true ∧ PySem.PyData.depthAll (txs ws) = 0 := by
  induction ws with
  | nil => exact ⟨rfl, rfl⟩
  | cons w ws ih =>
    obtain ⟨h1, h2⟩ := ih fun x hx => h x (List.mem_cons_of_mem _ hx)
    have hw := PySem.SeqAt.canLay_of_shaped (h w List.mem_cons_self)
    refine ⟨?_, ?_⟩
    · show ((PySem.PyData.str w).canLay0 && PySem.PyData.canLayAll0 (txs ws)) = true
      rw [hw, h1]; rfl
    · show max 0 (PySem.PyData.depthAll (txs ws)) = 0
      rw [h2]; rfl
theorem txs_shaped {ws : List Str} (h : ∀ w ∈ ws, shapedS w) : PySem.SeqAt.shaped (.list (txs ws)) = true := by
  obtain ⟨h1, h2⟩ := txs_lay h
  have e : (PySem.PyData.list (txs ws)).depth = PySem.PyData.depthAll (txs ws) + 1 := rfl
  have e2 : (PySem.PyData.list (txs ws)).canLay0 = PySem.PyData.canLayAll0 (txs ws) := rfl
  unfold PySem.SeqAt.shaped
  rw [e2, h1, e, h2]; rfl
theorem txs_eqv : ∀ ws us : List Str, PySem.PyData.eqvAll (txs ws) (txs us) = decide (ws = us)
  | [], [] => rfl
  | [], _ :: _ => rfl
  | _ :: _, [] => rfl
  | w :: ws, u :: us => by
    show (PySem.PyData.eqv (.str w) (.str u) && PySem.PyData.eqvAll (txs ws) (txs us)) = _
    rw [txs_eqv ws us, PySem.PyData.eqv, Bool.beq_eq_decide_eq]
    simp
theorem list_eq {ws us : List Str} (h : ∀ w ∈ ws, shapedS w) (h' : ∀ w ∈ us, shapedS w) : eqD (.own (txs ws)) (.own (txs us)) = .ok (.d (.bool (decide (ws = us)))) := by
  show (if PySem.SeqAt.shaped (.list (txs ws)) = true ∧ PySem.SeqAt.shaped (.list (txs us)) = true then R.ok (Cell.d (.bool (PySem.PyData.eqv (.list (txs ws)) (.list (txs us))))) else .no) = _
  rw [if_pos ⟨txs_shaped h, txs_shaped h'⟩]
  show R.ok (Cell.d (.bool (PySem.PyData.eqvAll (txs ws) (txs us)))) = _
  rw [txs_eqv]
theorem sh_put : shapedS (T "put") := by unfold shapedS; decide +kernel
theorem sh_back : shapedS (T "back") := by unfold shapedS; decide +kernel
theorem sh_drop : shapedS (T "drop") := by unfold shapedS; decide +kernel
theorem sh_read : shapedS (T "read") := by unfold shapedS; decide +kernel
/-- what a line of class c at place k of L gives -/
def runC (c : Cls) (L : List Str) (k : Nat) : Nat ⊕ D := match c with
  | (1, _, _, _) => .inr (.tuple [.str (T "back")])
  | (2, n, _, _) => .inr (.tuple [.str (T "drop"), .str n])
  | (3, n, l, _) => .inr (.tuple [.str (T "read"), .str n, .tuple (l.map optI)])
  | (4, n, _, m) => match rowsAt (L.drop (k + 1)) (k + 1) m with
    | .inl j => .inl j
    | .inr rs => .inr (.tuple [.str (T "put"), .str n, .str (PySem.Txt.join (T "\n") rs)])
  | _ => .inl (k + 1)
theorem split_words {s : Str} (h : s ∈ LINES) : splitD (.d (.str s)) (.d (.str (T " "))) = .ok (.own (txs (wordsOf s))) := splitD_str (by decide) (by have := plain_len h; omega)
theorem sum_len : ∀ {rs : List Str}, (∀ r ∈ rs, r.length ≤ 60) → (rs.map Str.length).sum ≤ 60 * rs.length
  | [], _ => Nat.zero_le _
  | r :: rs, h => by
    have := sum_len (rs := rs) fun x hx => h x (List.mem_cons_of_mem _ hx)
    have := h r List.mem_cons_self
    simp
    omega
theorem rows_join {L : List Str} (hL : ∀ s ∈ L, s ∈ LINES) {k m : Nat} {rs : List Str} (h : rowsAt (L.drop k) k m = .inr rs) (hm : m < 4) : (rs.map Str.length).sum + rs.length * (T "\n").length ≤ 16777216 := by
  obtain ⟨h1, h2, h3⟩ := rows_len h
  have h4 : ∀ r ∈ rs, r.length ≤ 60 := fun r hr => by
    rw [h2] at hr
    obtain ⟨s, hs, rfl⟩ := List.mem_map.mp hr
    exact (lines_cut s (hL s (List.mem_of_mem_drop (List.mem_of_mem_take hs)))).2.1
  have h5 := sum_len h4
  have h6 : (T "\n").length = 1 := by decide +kernel
  rw [h6]
  omega
section
variable {L : List Str}
/-- the program's put -/
theorem put_ok (hL : ∀ s ∈ L, s ∈ LINES) (hl : L.length ≤ 1000) {k : Nat} (hk : k < L.length) {w0 w1 w2 : Str} {i : Int} (h0 : 0 < i ∧ i < 4) (hlab : labOf w1 = some true) (hdig : digOf w2 = some (some i)) :
    m_parse_put [.list (txs L), .int (k : Int), .list (txs [w0, w1, w2])] = match runC (4, w1, [], i.toNat) L k with | .inl j => .ex (Str.ofString "BadLog") [(Str.ofString "line", .int (j : Int))] | .inr d => .ok (.d d) := by
  obtain ⟨m, rfl⟩ := Int.eq_ofNat_of_zero_le (show 0 ≤ i by omega)
  rw [Int.toNat_natCast]
  have e3 : txs [w0, w1, w2] = [.str w0, .str w1, .str w2] := rfl
  rw [e3]
  have l1 := lab_is hlab
  have d1 := dig_some hdig
  have q1 : idxD (.d (.list [PySem.PyData.str w0, .str w1, .str w2])) (.d (.int 1)) = .ok (.d (.str w1)) := rfl
  have q2 : idxD (.d (.list [PySem.PyData.str w0, .str w1, .str w2])) (.d (.int 2)) = .ok (.d (.str w2)) := rfl
  have n3 := int_eqD (i := 3) (j := 3)
  have n0 := int_eqD (i := (m : Int)) (j := 0)
  rw [decide_eq_false (by omega)] at n0
  have l0 : lstR (.ok []) = .ok (.own (txs [])) := lstR_ok (by decide)
  have mk : ∀ s : String, Str.ofString s = T s := fun _ => rfl
  -- how far it walks
  obtain ⟨mm, hmm, hmn, hrow⟩ : ∃ mm : Nat, (if (L.length : Int) < (m : Int) then (L.length : Int) else (m : Int)) = (mm : Int) ∧ mm < 4 ∧ rowsAt (L.drop (k + 1)) (k + 1) mm = rowsAt (L.drop (k + 1)) (k + 1) m := by
    by_cases h : (L.length : Int) < (m : Int)
    · refine ⟨L.length, if_pos h, by omega, rows_short _ _ _ _ ?_ ?_⟩
      · rw [List.length_drop]; omega
      · rw [List.length_drop]; omega
    · exact ⟨m, if_neg h, by omega, rfl⟩
  have r2 := rng2_nat (a := k + 1) (b := k + 1 + mm) (by omega) (by omega)
  rw [show k + 1 + mm - (k + 1) = mm by omega, show ((k + 1 + mm : Nat) : Int) = (k : Int) + 1 + (mm : Int) by omega, show ((k + 1 : Nat) : Int) = (k : Int) + 1 from rfl] at r2
  have walk := put_walk hL hl (x1 := .d (.int (k : Int))) (x2 := .d (.list [PySem.PyData.str w0, .str w1, .str w2])) (x3 := .d (.int (m : Int))) mm (k + 1) [] .un (by simp; omega) (by omega)
  rw [show ((k + 1 : Nat) : Int) = (k : Int) + 1 from rfl, hrow] at walk
  have un : runC (4, w1, [], m) L k = match rowsAt (L.drop (k + 1)) (k + 1) m with | .inl j => .inl j | .inr rs => .inr (.tuple [.str (T "put"), .str w1, .str (PySem.Txt.join (T "\n") rs)]) := rfl
  rw [un]
  have t3 : ∀ a b c : D, tupR (.ok [a, b, c]) = .ok (.d (.tuple [a, b, c])) := fun a b c => tupR_ok (by simp)
  have mn := min_int (i := (m : Int)) (j := (L.length : Int))
  rw [hmm] at mn
  unfold m_parse_put runD g_parse_put
  cases r : rowsAt (L.drop (k + 1)) (k + 1) m with
  | inl j =>
    rw [r] at walk
    obtain ⟨e, hw⟩ := walk
    simp -implicitDefEqProofs [-List.getD_eq_getElem?_getD, startD, mk, q1, q2, n3, l1, d1, n0, l0, setR, txs_len, mn, r2, hw]
  | inr rs =>
    rw [r] at walk
    obtain ⟨y5, hw⟩ := walk
    have jn := joinD_own (s := T "\n") (zs := rs) (rows_join hL (r.symm ▸ rfl : rowsAt (L.drop (k + 1)) (k + 1) m = .inr rs) (by omega))
    have jn : joinD (.d (.str (T "\n"))) (.own (txs rs)) = .ok (.d (.str (PySem.Txt.join (T "\n") rs))) := jn
    rw [List.nil_append] at hw
    simp -implicitDefEqProofs [-List.getD_eq_getElem?_getD, startD, mk, q1, q2, n3, l1, d1, n0, l0, setR, txs_len, mn, r2, hw, jn, t3]
end
end K94
namespace K94
open PySem (Str)
open DL L2
section
variable {L : List Str}
def progR (r : Nat ⊕ D) : R Cell := match r with
  | .inl j => .ex (Str.ofString "BadLog") [(Str.ofString "line", .int (j : Int))]
  | .inr d => .ok (.d d)
def lawR (r : Nat ⊕ D) : R Cell := match r with
  | .inl j => .ok (.d (.int (j : Int)))
  | .inr d => .ok (.d d)
theorem put_bad {k : Nat} {w0 : Str} {r : List Str} (hw : ∀ w ∈ w0 :: r, shapedS w) (h : ∀ w1 w2, r = [w1, w2] → labOf w1 = some false ∨ (labOf w1 = some true ∧ (digOf w2 = some none ∨ digOf w2 = some (some 0)))) :
    m_parse_put [.list (txs L), .int (k : Int), .list (txs (w0 :: r))] = progR (.inl (k + 1)) := by
  have mk : ∀ s : String, Str.ofString s = T s := fun _ => rfl
  have hlen : lenD (.d (.list (txs (w0 :: r)))) = .ok (.d (.int ((r.length : Int) + 1))) := by
    rw [len_list, txs_len]; rfl
  have n3 := int_eqD (i := (r.length : Int) + 1) (j := 3)
  have n0 := int_eqD (i := 0) (j := 0)
  unfold m_parse_put runD g_parse_put progR
  by_cases h2 : r.length = 2
  · obtain ⟨w1, w2, rfl⟩ : ∃ w1 w2, r = [w1, w2] := by
      match r, h2 with
      | [w1, w2], _ => exact ⟨w1, w2, rfl⟩
    have q1 : idxD (.d (.list (txs [w0, w1, w2]))) (.d (.int 1)) = .ok (.d (.str w1)) := rfl
    have q2 : idxD (.d (.list (txs [w0, w1, w2]))) (.d (.int 2)) = .ok (.d (.str w2)) := rfl
    rw [decide_eq_true (by simp)] at n3
    generalize txs [w0, w1, w2] = WS at *
    rcases h w1 w2 rfl with hb | ⟨hb, hd | hd⟩
    · have l1 := lab_is hb
      simp -implicitDefEqProofs at n3 hlen
      simp -implicitDefEqProofs [startD, mk, q1, q2, hlen, n3, l1, setR]
    · have l1 := lab_is hb
      have d1 := dig_none hd
      simp -implicitDefEqProofs at n3 hlen
      simp -implicitDefEqProofs [startD, mk, q1, q2, hlen, n3, l1, d1, setR]
    · have l1 := lab_is hb
      have d1 := dig_some hd
      simp -implicitDefEqProofs at n3 hlen
      simp -implicitDefEqProofs [startD, mk, q1, q2, hlen, n3, l1, d1, n0, setR]
  · rw [decide_eq_false (by omega)] at n3
    generalize txs (w0 :: r) = WS at *
    simp -implicitDefEqProofs [startD, mk, hlen, n3, setR]
theorem parse_line_ok (hL : ∀ s ∈ L, s ∈ LINES) (hl : L.length ≤ 1000) {k : Nat} {s : Str} (hs : L[k]? = some s) {c : Cls} (hc : pcW (wordsOf s) = some c) :
    m_parse_line [.list (txs L), .int (k : Int)] = progR (runC c L k) := by
  have hk : k < L.length := (List.getElem?_eq_some_iff.mp hs).1
  have hm : s ∈ LINES := hL s (List.mem_of_getElem? hs)
  have i1 := txs_get hs
  have sp := split_words hm
  generalize wordsOf s = ws at *
  have mk : ∀ s : String, Str.ofString s = T s := fun _ => rfl
  have lb : lstR (.ok [PySem.PyData.str (T "back")]) = .ok (.own (txs [T "back"])) := lstR_ok (by decide)
  have t1 : ∀ a : D, tupR (.ok [a]) = .ok (.d (.tuple [a])) := fun a => tupR_ok (by simp)
  have t2 : ∀ a b : D, tupR (.ok [a, b]) = .ok (.d (.tuple [a, b])) := fun a b => tupR_ok (by simp)
  have t3 : ∀ a b c : D, tupR (.ok [a, b, c]) = .ok (.d (.tuple [a, b, c])) := fun a b c => tupR_ok (by simp)
  unfold pcW at hc
  split at hc
  case isFalse => cases hc
  case isTrue hok =>
    have hw := ok_all hok
    cases ws with
    | nil => cases hc
    | cons w0 r =>
      have x0 : idxD (.own (txs (w0 :: r))) (.d (.int 0)) = .ok (.d (.str w0)) := idx_own (xs := txs (w0 :: r)) (k := 0) rfl
      have ep := str_shaped (hw w0 List.mem_cons_self) sh_put
      have eb := list_eq hw (us := [T "back"]) (fun w h => by rw [List.mem_singleton.mp h]; exact sh_back)
      have ed := str_shaped (hw w0 List.mem_cons_self) sh_drop
      have er := str_shaped (hw w0 List.mem_cons_self) sh_read
      have hlen : lenD (.own (txs (w0 :: r))) = .ok (.d (.int ((r.length : Int) + 1))) := by
        rw [len_own, txs_len]; rfl
      dsimp only at hc
      by_cases c0 : w0 = T "put"
      · rw [if_pos c0] at hc
        rw [decide_eq_true c0] at ep
        have fin : m_parse_put [.list (txs L), .int (k : Int), .list (txs (w0 :: r))] = progR (runC c L k) := by
          match r, hc, hw with
          | [], hc, hw => cases hc; exact put_bad hw fun _ _ h => by cases h
          | [w1], hc, hw => cases hc; exact put_bad hw fun _ _ h => by cases h
          | w1 :: w2 :: w3 :: r, hc, hw => cases hc; exact put_bad hw fun _ _ h => by cases h
          | [w1, w2], hc, hw =>
            dsimp only at hc
            split at hc
            · rename_i hlab
              split at hc
              · rename_i hdig
                cases hc
                exact put_bad hw fun a b h => by cases h; exact .inr ⟨hlab, .inl hdig⟩
              · rename_i i hdig
                split at hc
                · rename_i hz
                  subst hz
                  cases hc
                  exact put_bad hw fun a b h => by cases h; exact .inr ⟨hlab, .inr hdig⟩
                · split at hc
                  · rename_i hi
                    cases hc
                    rw [put_ok hL hl hk hi hlab hdig]
                    unfold progR
                    rfl
                  · cases hc
              · cases hc
            · rename_i hlab
              cases hc
              exact put_bad hw fun a b h => by cases h; exact .inl hlab
            · cases hc
        unfold m_parse_line runD g_parse_line
        generalize txs (w0 :: r) = WS at *
        simp -implicitDefEqProofs [startD, mk, i1, sp, setR, x0, ep, fin]
        cases runC c L k <;> rfl
      · rw [if_neg c0] at hc
        rw [decide_eq_false c0] at ep
        have eb' : decide (w0 :: r = [T "back"]) = decide (w0 = T "back" ∧ r = []) := by
          by_cases h : w0 = T "back" ∧ r = []
          · rw [decide_eq_true h, decide_eq_true (by rw [h.1, h.2])]
          · rw [decide_eq_false h, decide_eq_false (fun z => h (by cases z; exact ⟨rfl, rfl⟩))]
        rw [eb'] at eb
        by_cases c1 : w0 = T "back" ∧ r = []
        · rw [if_pos c1] at hc
          cases hc
          rw [decide_eq_true c1] at eb
          unfold m_parse_line runD g_parse_line
          generalize txs (w0 :: r) = WS at *
          simp -implicitDefEqProofs [startD, mk, i1, sp, setR, x0, ep, lb, eb, t1, progR, runC]
        · rw [if_neg c1] at hc
          rw [decide_eq_false c1] at eb
          cases r with
          | nil =>
            cases hc
            simp -implicitDefEqProofs at hlen
            unfold m_parse_line runD g_parse_line
            generalize txs [w0] = WS at *
            simp -implicitDefEqProofs [startD, mk, i1, sp, setR, x0, ep, lb, eb, hlen, progR, runC, bad]
          | cons w1 r2 =>
            have x1 : idxD (.own (txs (w0 :: w1 :: r2))) (.d (.int 1)) = .ok (.d (.str w1)) := idx_own (xs := txs (w0 :: w1 :: r2)) (k := 1) rfl
            have cut : sliceA (.own (txs (w0 :: w1 :: r2))) (some 2) none = .ok (.own (txs r2)) := by
              rw [sliceA_own]
              have := cut_from (txs (w0 :: w1 :: r2)) 2
              rw [show ((2 : Nat) : Int) = 2 from rfl] at this
              rw [this]; rfl
            have hl1 : (1 : Int) < ((w1 :: r2).length : Int) + 1 := by simp; omega
            have n2 := int_eqD (i := ((w1 :: r2).length : Int) + 1) (j := 2)
            have n2' : decide (((w1 :: r2).length : Int) + 1 = 2) = decide (r2 = []) := by
              cases r2 with
              | nil => rfl
              | cons a b =>
                have h1 : ¬ (((w1 :: a :: b).length : Int) + 1 = 2) := by rw [List.length_cons, List.length_cons]; omega
                have h2 : ¬ (a :: b = []) := by simp
                rw [decide_eq_false h1, decide_eq_false h2]
            rw [n2'] at n2
            generalize (((w1 :: r2).length : Int) + 1) = len at *
            dsimp only at hc
            split at hc
            · rename_i hlab
              have l1 := lab_is hlab
              by_cases c2 : w0 = T "drop" ∧ r2 = []
              · rw [if_pos c2] at hc
                cases hc
                rw [decide_eq_true c2.1] at ed
                rw [decide_eq_true c2.2] at n2
                unfold m_parse_line runD g_parse_line
                generalize txs (w0 :: w1 :: r2) = WS at *
                simp -implicitDefEqProofs [startD, mk, i1, sp, setR, x0, x1, ep, lb, eb, hlen, hl1, l1, ed, n2, t2, progR, runC]
              · rw [if_neg c2] at hc
                have edd : ∀ X Y : Out, (andR ((eqD (.d (.str w0)) (.d (.str (T "drop")))).bind asB) ((eqD (.d (.int len)) (.d (.int 2))).bind asB)) = .ok false := fun X Y => by
                  rw [ed, n2]
                  by_cases z : w0 = T "drop"
                  · have z2 : ¬ r2 = [] := fun h => c2 ⟨z, h⟩
                    simp [z, z2]
                  · simp [z]
                have edd := edd .no .no
                by_cases c3 : w0 = T "read"
                · rw [if_pos c3] at hc
                  rw [decide_eq_true c3] at er
                  split at hc
                  · rename_i l hr
                    cases hc
                    have hr := rdg_some hr
                    have hr : m_parse_reading [.list (txs r2)] = .ok (.d (.tuple (l.map optI))) := hr
                    unfold m_parse_line runD g_parse_line
                    generalize txs (w0 :: w1 :: r2) = WS at *
                    simp -implicitDefEqProofs [startD, mk, i1, sp, setR, x0, x1, ep, lb, eb, hlen, hl1, l1, edd, er, cut, hr, t3, progR, runC]
                  · rename_i hr
                    cases hc
                    have hr := rdg_none hr
                    have hr : m_parse_reading [.list (txs r2)] = .ok (.d .none) := hr
                    unfold m_parse_line runD g_parse_line
                    generalize txs (w0 :: w1 :: r2) = WS at *
                    simp -implicitDefEqProofs [startD, mk, i1, sp, setR, x0, x1, ep, lb, eb, hlen, hl1, l1, edd, er, cut, hr, t3, progR, runC, bad]
                  · cases hc
                · rw [if_neg c3] at hc
                  cases hc
                  rw [decide_eq_false c3] at er
                  unfold m_parse_line runD g_parse_line
                  generalize txs (w0 :: w1 :: r2) = WS at *
                  simp -implicitDefEqProofs [startD, mk, i1, sp, setR, x0, x1, ep, lb, eb, hlen, hl1, l1, edd, er, progR, runC, bad]
            · rename_i hlab
              have l1 := lab_is hlab
              cases hc
              unfold m_parse_line runD g_parse_line
              generalize txs (w0 :: w1 :: r2) = WS at *
              simp -implicitDefEqProofs [startD, mk, i1, sp, setR, x0, x1, ep, lb, eb, hlen, hl1, l1, progR, runC, bad]
            · cases hc
end
end K94
namespace K94
open PySem (Str)
open DL L2
section
variable {L : List Str}
theorem law_line_ok (hL : ∀ s ∈ L, s ∈ LINES) (hl : L.length ≤ 1000) {k : Nat} {s : Str} (hs : L[k]? = some s) {c : Cls} (hc : lcW (wordsOf s) = some c) :
    m_law_line [.list (txs L), .int (k : Int)] = lawR (runC c L k) := by
  have hk : k < L.length := (List.getElem?_eq_some_iff.mp hs).1
  have hm : s ∈ LINES := hL s (List.mem_of_getElem? hs)
  have i1 := txs_get hs
  have sp := split_words hm
  generalize wordsOf s = ws at *
  have mk : ∀ s : String, Str.ofString s = T s := fun _ => rfl
  have lb : lstR (.ok [PySem.PyData.str (T "back")]) = .ok (.own (txs [T "back"])) := lstR_ok (by decide)
  have t1 : ∀ a : D, tupR (.ok [a]) = .ok (.d (.tuple [a])) := fun a => tupR_ok (by simp)
  have t2 : ∀ a b : D, tupR (.ok [a, b]) = .ok (.d (.tuple [a, b])) := fun a b => tupR_ok (by simp)
  have t3 : ∀ a b c : D, tupR (.ok [a, b, c]) = .ok (.d (.tuple [a, b, c])) := fun a b c => tupR_ok (by simp)
  unfold lcW at hc
  split at hc
  case isFalse => cases hc
  case isTrue hok =>
    have hw := ok_all hok
    cases ws with
    | nil => cases hc
    | cons w0 r =>
      have eb := list_eq hw (us := [T "back"]) (fun w h => by rw [List.mem_singleton.mp h]; exact sh_back)
      have eb' : decide (w0 :: r = [T "back"]) = decide (w0 = T "back" ∧ r = []) := by
        by_cases h : w0 = T "back" ∧ r = []
        · rw [decide_eq_true h, decide_eq_true (by rw [h.1, h.2])]
        · rw [decide_eq_false h, decide_eq_false (fun z => h (by cases z; exact ⟨rfl, rfl⟩))]
      rw [eb'] at eb
      have fz : freezeC (.own (txs (w0 :: r))) = .d (.list (txs (w0 :: r))) := rfl
      have x0 : idxD (.d (.list (txs (w0 :: r)))) (.d (.int 0)) = .ok (.d (.str w0)) := idx_list (xs := txs (w0 :: r)) (k := 0) rfl
      have ed := str_shaped (hw w0 List.mem_cons_self) sh_drop
      have er := str_shaped (hw w0 List.mem_cons_self) sh_read
      have ep := str_shaped_ne (hw w0 List.mem_cons_self) sh_put
      have hlen : lenD (.d (.list (txs (w0 :: r)))) = .ok (.d (.int ((r.length : Int) + 1))) := by
        rw [len_list, txs_len]; rfl
      dsimp only at hc
      by_cases c1 : w0 = T "back" ∧ r = []
      · rw [if_pos c1] at hc
        cases hc
        rw [decide_eq_true c1] at eb
        unfold m_law_line runD g_law_line
        generalize txs (w0 :: r) = WS at *
        simp -implicitDefEqProofs [startD, mk, i1, sp, setR, lb, eb, t1, lawR, runC]
      · rw [if_neg c1] at hc
        rw [decide_eq_false c1] at eb
        split at hc
        · cases hc
        · rename_i hlab
          cases hc
          have l1 := llab_is hlab
          have l1 : m_law_label [.list (txs (w0 :: r))] = .ok (.d (.bool false)) := l1
          unfold m_law_line runD g_law_line
          generalize txs (w0 :: r) = WS at *
          simp -implicitDefEqProofs [startD, mk, i1, sp, setR, lb, eb, l1, lawR, runC, bad]
        · rename_i hlab
          have l1 := llab_is hlab
          have l1 : m_law_label [.list (txs (w0 :: r))] = .ok (.d (.bool true)) := l1
          cases r with
          | nil => cases hc
          | cons w1 r2 =>
            have x1 : idxD (.d (.list (txs (w0 :: w1 :: r2)))) (.d (.int 1)) = .ok (.d (.str w1)) := idx_list (xs := txs (w0 :: w1 :: r2)) (k := 1) rfl
            have cut : sliceA (.d (.list (txs (w0 :: w1 :: r2)))) (some 2) none = .ok (.own (txs r2)) := by
              rw [sliceA_list]
              have := cut_from (txs (w0 :: w1 :: r2)) 2
              rw [show ((2 : Nat) : Int) = 2 from rfl] at this
              rw [this]; rfl
            have n2 := int_eqD (i := ((w1 :: r2).length : Int) + 1) (j := 2)
            have n2' : decide (((w1 :: r2).length : Int) + 1 = 2) = decide (r2 = []) := by
              cases r2 with
              | nil => rfl
              | cons a b =>
                have h1 : ¬ (((w1 :: a :: b).length : Int) + 1 = 2) := by rw [List.length_cons, List.length_cons]; omega
                have h2 : ¬ (a :: b = []) := by simp
                rw [decide_eq_false h1, decide_eq_false h2]
            rw [n2'] at n2
            have n3 := int_neD (i := ((w1 :: r2).length : Int) + 1) (j := 3)
            have n3' : decide (((w1 :: r2).length : Int) + 1 = 3) = decide (r2.length = 1) := by
              by_cases z : r2.length = 1
              · rw [decide_eq_true z, decide_eq_true (by rw [List.length_cons]; omega)]
              · rw [decide_eq_false z, decide_eq_false (by rw [List.length_cons]; omega)]
            rw [n3'] at n3
            generalize (((w1 :: r2).length : Int) + 1) = len at *
            dsimp only at hc
            by_cases c2 : w0 = T "drop" ∧ r2 = []
            · rw [if_pos c2] at hc
              cases hc
              rw [decide_eq_true c2.1] at ed
              rw [decide_eq_true c2.2] at n2
              unfold m_law_line runD g_law_line
              generalize txs (w0 :: w1 :: r2) = WS at *
              simp -implicitDefEqProofs [startD, mk, i1, sp, setR, lb, eb, l1, x0, x1, ed, hlen, n2, t2, lawR, runC]
            · rw [if_neg c2] at hc
              have edd : (andR ((eqD (.d (.str w0)) (.d (.str (T "drop")))).bind asB) ((eqD (.d (.int len)) (.d (.int 2))).bind asB)) = .ok false := by
                rw [ed, n2]
                by_cases z : w0 = T "drop"
                · have z2 : ¬ r2 = [] := fun h => c2 ⟨z, h⟩
                  simp [z, z2]
                · simp [z]
              by_cases c3 : w0 = T "read"
              · rw [if_pos c3] at hc
                rw [decide_eq_true c3] at er
                split at hc
                · rename_i l hr
                  cases hc
                  have hr := lit_some hr
                  have hr : m_law_items [.list (txs r2)] = .ok (.d (.tuple (l.map optI))) := hr
                  unfold m_law_line runD g_law_line
                  generalize txs (w0 :: w1 :: r2) = WS at *
                  have nn : isNoneD (.d (.tuple (l.map optI))) = .ok (.d (.bool false)) := rfl
                  simp -implicitDefEqProofs [startD, mk, i1, sp, setR, lb, eb, l1, x0, x1, edd, hlen, er, cut, hr, nn, t3, lawR, runC]
                · rename_i hr
                  cases hc
                  have hr := lit_none hr
                  have hr : m_law_items [.list (txs r2)] = .ok (.d .none) := hr
                  unfold m_law_line runD g_law_line
                  generalize txs (w0 :: w1 :: r2) = WS at *
                  simp -implicitDefEqProofs [startD, mk, i1, sp, setR, lb, eb, l1, x0, x1, edd, hlen, er, cut, hr, lawR, runC, bad]
                · cases hc
              · rw [if_neg c3] at hc
                rw [decide_eq_false c3] at er
                by_cases c4 : w0 = T "put"
                · rw [if_pos c4] at hc
                  rw [decide_eq_true c4] at ep
                  by_cases z : r2.length = 1
                  · obtain ⟨w2, rfl⟩ : ∃ w2, r2 = [w2] := by
                      match r2, z with
                      | [w2], _ => exact ⟨w2, rfl⟩
                    rw [decide_eq_true z] at n3
                    have x2 : idxD (.d (.list (txs [w0, w1, w2]))) (.d (.int 2)) = .ok (.d (.str w2)) := rfl
                    dsimp only at hc
                    split at hc
                    · cases hc
                    · rename_i hd
                      cases hc
                      have d1 := ldig_is hd
                      unfold m_law_line runD g_law_line
                      generalize txs [w0, w1, w2] = WS at *
                      simp -implicitDefEqProofs [startD, mk, i1, sp, setR, lb, eb, l1, x0, x1, x2, edd, hlen, er, ep, n3, d1, lawR, runC, bad]
                    · rename_i hd
                      have d1 := ldig_is hd
                      split at hc
                      · cases hc
                      · rename_i i hi
                        have v1 := lint_is hi
                        split at hc
                        · rename_i hz
                          subst hz
                          cases hc
                          have n0 := int_eqD (i := 0) (j := 0)
                          unfold m_law_line runD g_law_line
                          generalize txs [w0, w1, w2] = WS at *
                          simp -implicitDefEqProofs [startD, mk, i1, sp, setR, lb, eb, l1, x0, x1, x2, edd, hlen, er, ep, n3, d1, v1, n0, lawR, runC, bad]
                        · rename_i hz
                          split at hc
                          · rename_i hi2
                            cases hc
                            have n0 := int_eqD (i := i) (j := 0)
                            rw [decide_eq_false hz] at n0
                            obtain ⟨m, rfl⟩ := Int.eq_ofNat_of_zero_le (show 0 ≤ i by omega)
                            rw [Int.toNat_natCast]
                            obtain ⟨mm, hmm, hmn, hrow⟩ : ∃ mm : Nat, (if (L.length : Int) < (k : Int) + (m : Int) then (L.length : Int) else (k : Int) + (m : Int)) = ((k + mm : Nat) : Int) ∧ mm < 4 ∧ rowsAt (L.drop (k + 1)) (k + 1) mm = rowsAt (L.drop (k + 1)) (k + 1) m := by
                              by_cases h : (L.length : Int) < (k : Int) + (m : Int)
                              · refine ⟨L.length - k, by rw [if_pos h]; omega, by omega, rows_short _ _ _ _ ?_ ?_⟩
                                · rw [List.length_drop]; omega
                                · rw [List.length_drop]; omega
                              · exact ⟨m, by rw [if_neg h]; omega, by omega, rfl⟩
                            have r2 := rng2_nat (a := k + 1) (b := k + mm + 1) (by omega) (by omega)
                            rw [show k + mm + 1 - (k + 1) = mm by omega, show ((k + mm + 1 : Nat) : Int) = ((k + mm : Nat) : Int) + 1 from rfl, show ((k + 1 : Nat) : Int) = (k : Int) + 1 from rfl] at r2
                            have walk := law_walk hL hl (x1 := .d (.int (k : Int))) (x2 := .d (.list (txs [w0, w1, w2]))) (x3 := .d (.int (m : Int))) (x5 := .un) (x6 := .un) mm (k + 1) .un (by omega)
                            rw [show ((k + 1 : Nat) : Int) = (k : Int) + 1 from rfl, hrow] at walk
                            have un : runC (4, w1, [], m) L k = match rowsAt (L.drop (k + 1)) (k + 1) m with | .inl j => .inl j | .inr rs => .inr (.tuple [.str (T "put"), .str w1, .str (PySem.Txt.join (T "\n") rs)]) := rfl
                            rw [un]
                            have mn := min_int (i := (k : Int) + (m : Int)) (j := (L.length : Int))
                            rw [hmm] at mn
                            unfold m_law_line runD g_law_line
                            generalize ((k + mm : Nat) : Int) = kmm at *
                            cases r : rowsAt (L.drop (k + 1)) (k + 1) m with
                            | inl j =>
                              rw [r] at walk
                              generalize txs [w0, w1, w2] = WS at *
                              simp -implicitDefEqProofs [startD, mk, i1, sp, setR, lb, eb, l1, x0, x1, x2, edd, hlen, er, ep, n3, d1, v1, n0, txs_len, mn, r2, walk, lawR]
                            | inr rs =>
                              rw [r] at walk
                              obtain ⟨y4, walk⟩ := walk
                              obtain ⟨_, hrs, hmL⟩ := rows_len r
                              have jn := joinD_own (s := T "\n") (zs := rs) (rows_join hL r (by omega))
                              have jn : joinD (.d (.str (T "\n"))) (.own (txs rs)) = .ok (.d (.str (PySem.Txt.join (T "\n") rs))) := jn
                              have ct : sliceA (.d (.list (txs L))) (some ((k : Int) + 1)) (some ((k : Int) + 1 + (m : Int))) = .ok (.own (txs ((L.drop (k + 1)).take m))) := by
                                rw [sliceA_list]
                                have := cut_nat (txs L) (k + 1) (k + 1 + m)
                                rw [show ((k + 1 + m : Nat) : Int) = (k : Int) + 1 + (m : Int) by omega, show ((k + 1 : Nat) : Int) = (k : Int) + 1 from rfl, show k + 1 + m - (k + 1) = m by omega] at this
                                rw [this]
                                unfold txs
                                rw [List.map_take, List.map_drop]
                              have hsub : ∀ x ∈ txs ((L.drop (k + 1)).take m), ∃ s, x = .str s ∧ s ∈ LINES := fun x hx => by
                                obtain ⟨s, hs, rfl⟩ := List.mem_map.mp hx
                                exact ⟨s, rfl, hL s (List.mem_of_mem_drop (List.mem_of_mem_take hs))⟩
                              have lc := fun e : Env => lcL_map (vs := [6]) (i := 6) (f := fun en => ((getC 6 en).bind fun x => ((cstD (.int 1) en).bind asI).bind fun l => (R.ok none).bind fun u => sliceA x l u)) (xs := txs ((L.drop (k + 1)).take m)) (e := [.d (.list (txs L)), .d (.int (k : Int)), .d (.list (txs [w0, w1, w2])), .d (.int (m : Int)), y4, .un, .un]) (g := fun x => match x with | .str s => .str (tl s) | y => y) (by rw [txs_len, List.length_take]; omega) (fun x hx => by
                                obtain ⟨s, rfl, hs⟩ := hsub x hx
                                have := tl_ok hs
                                simp -implicitDefEqProofs [this])
                              have lc := lc []
                              have em : (txs ((L.drop (k + 1)).take m)).map (fun x => match x with | .str s => PySem.PyData.str (tl s) | y => y) = txs rs := by
                                rw [hrs]
                                unfold txs
                                rw [List.map_map, List.map_map]
                                rfl
                              rw [em] at lc
                              generalize txs [w0, w1, w2] = WS at *
                              simp -implicitDefEqProofs at lc
                              simp -implicitDefEqProofs [startD, mk, i1, sp, setR, lb, eb, l1, x0, x1, x2, edd, hlen, er, ep, n3, d1, v1, n0, txs_len, mn, r2, walk, ct, lc, jn, t3, lawR]
                          · cases hc
                  · rw [decide_eq_false z] at n3
                    have hcb : c = bad := by
                      match r2, z, hc with
                      | [], _, hc => cases hc; rfl
                      | _ :: _ :: _, _, hc => cases hc; rfl
                    subst hcb
                    unfold m_law_line runD g_law_line
                    generalize txs (w0 :: w1 :: r2) = WS at *
                    simp -implicitDefEqProofs [startD, mk, i1, sp, setR, lb, eb, l1, x0, x1, edd, hlen, er, ep, n3, lawR, runC, bad]
                · rw [if_neg c4] at hc
                  cases hc
                  rw [decide_eq_false c4] at ep
                  unfold m_law_line runD g_law_line
                  generalize txs (w0 :: w1 :: r2) = WS at *
                  simp -implicitDefEqProofs [startD, mk, i1, sp, setR, lb, eb, l1, x0, x1, edd, hlen, er, ep, lawR, runC, bad]
end
end K94
namespace K94
open PySem (Str)
open DL L2
/-! ### texts of lines -/
def joinN (ps : List Str) : Str := PySem.Txt.join (T "\n") ps
theorem nl_tl : TL.tl (T "\n") = [10] := by decide +kernel
theorem nl_small : (T "\n").cps.all (· < 256) = true := by decide +kernel
theorem split_joinN {ps : List Str} (hne : ps ≠ []) (hp : ∀ p ∈ ps, 10 ∉ p.cps.toList) : PySem.Txt.split (joinN ps) (T "\n") = ps := TL.split_join nl_tl nl_small hne hp
theorem join_tl (ps : List Str) : (joinN ps).cps.toList = TL.joinL [10] (ps.map TL.tl) := by
  unfold joinN
  rw [TL.join_eq]
  show TL.tl (Str.join (T "\n") ps) = _
  rw [TL.tl_join, nl_tl]
theorem shapedS_iff {s : Str} : shapedS s ↔ ∀ c ∈ s.cps.toList, c < 0x110000 := by
  unfold shapedS PySem.SeqAt.shaped
  have e : (PySem.PyData.str s).canLay0 = s.cps.all (· < 0x110000) := rfl
  rw [e]
  have d : decide ((PySem.PyData.str s).depth ≤ 64) = true := rfl
  rw [d, Bool.and_true, Array.all_eq_true']
  constructor
  · intro h c hc
    exact of_decide_eq_true (h c (Array.mem_toList_iff.mp hc))
  · intro h c hc
    exact decide_eq_true (h c (Array.mem_toList_iff.mpr hc))
theorem joinL_mem {c : Nat} : ∀ {ps : List (List Nat)}, c ∈ TL.joinL [10] ps → c = 10 ∨ ∃ p ∈ ps, c ∈ p
  | [], h => by cases h
  | [p], h => .inr ⟨p, List.mem_cons_self, h⟩
  | p :: q :: r, h => by
    have h : c ∈ p ++ ([10] ++ TL.joinL [10] (q :: r)) := h
    rcases List.mem_append.mp h with h | h
    · exact .inr ⟨p, List.mem_cons_self, h⟩
    · rcases List.mem_append.mp h with h | h
      · exact .inl (List.mem_singleton.mp h)
      · rcases joinL_mem h with h | ⟨x, h1, h2⟩
        · exact .inl h
        · exact .inr ⟨x, List.mem_cons_of_mem _ h1, h2⟩
theorem join_shaped {ps : List Str} (h : ∀ p ∈ ps, shapedS p) : shapedS (joinN ps) := by
  rw [shapedS_iff]
  intro c hc
  rw [join_tl] at hc
  rcases joinL_mem hc with rfl | ⟨p, hp, hc⟩
  · decide
  · obtain ⟨s, hs, rfl⟩ := List.mem_map.mp hp
    exact shapedS_iff.mp (h s hs) c hc
theorem joinL_len : ∀ (ps : List (List Nat)) , (∀ p ∈ ps, p.length ≤ 60) → (TL.joinL [10] ps).length ≤ 61 * ps.length
  | [], _ => Nat.zero_le _
  | [p], h => by
    have := h p List.mem_cons_self
    show p.length ≤ 61 * 1
    omega
  | p :: q :: r, h => by
    have h1 := h p List.mem_cons_self
    have h2 := joinL_len (q :: r) fun x hx => h x (List.mem_cons_of_mem _ hx)
    show (p ++ ([10] ++ TL.joinL [10] (q :: r))).length ≤ _
    rw [List.length_append, List.length_append]
    simp only [List.length_cons, List.length_nil] at h2 ⊢
    omega
theorem join_len {ps : List Str} (h : ∀ p ∈ ps, p.length ≤ 60) : (joinN ps).length ≤ 61 * ps.length := by
  have e : (joinN ps).length = (joinN ps).cps.toList.length := by
    show (joinN ps).cps.size = _
    simp
  rw [e, join_tl]
  have := joinL_len (ps.map TL.tl) fun p hp => by
    obtain ⟨s, hs, rfl⟩ := List.mem_map.mp hp
    have := h s hs
    have e2 : s.length = (TL.tl s).length := by
      show s.cps.size = _
      simp
    omega
  rw [List.length_map] at this
  exact this
theorem joinL_count : ∀ (ps : List (List Nat)), ps ≠ [] → (∀ p ∈ ps, 10 ∉ p) → ((TL.joinL [10] ps).filter (fun c => decide (c = 10))).length + 1 = ps.length
  | [], h, _ => absurd rfl h
  | [p], _, h => by
    show (p.filter _).length + 1 = 1
    rw [List.filter_eq_nil_iff.mpr]
    · rfl
    · intro c hc
      have : c ≠ 10 := fun z => h p List.mem_cons_self (by rw [← z]; exact hc)
      simpa using this
  | p :: q :: r, _, h => by
    have ih := joinL_count (q :: r) (by simp) fun x hx => h x (List.mem_cons_of_mem _ hx)
    show ((p ++ ([10] ++ TL.joinL [10] (q :: r))).filter _).length + 1 = _
    rw [List.filter_append, List.filter_append, List.length_append, List.length_append]
    have e0 : p.filter (fun c => decide (c = 10)) = [] := List.filter_eq_nil_iff.mpr fun c hc => by
      have : c ≠ 10 := fun z => h p List.mem_cons_self (by rw [← z]; exact hc)
      simpa using this
    have e : ([10].filter fun c => decide (c = 10)).length = 1 := rfl
    rw [e0, e]
    simp only [List.length_cons, List.length_nil] at ih ⊢
    omega
theorem join_count {ps : List Str} (hne : ps ≠ []) (hp : ∀ p ∈ ps, 10 ∉ p.cps.toList) : ((joinN ps).cps.toList.filter (fun c => decide (c = 10))).length + 1 = ps.length := by
  rw [join_tl]
  have := joinL_count (ps.map TL.tl) (fun z => hne (List.map_eq_nil_iff.mp z)) fun p h => by
    obtain ⟨s, hs, rfl⟩ := List.mem_map.mp h
    exact hp s hs
  rw [List.length_map] at this
  exact this
/-! ### all lines -/
def clsAt (s : Str) : Cls := (pcW (wordsOf s)).getD bad
theorem cls_prog {s : Str} (h : s ∈ LINES) : pcW (wordsOf s) = some (clsAt s) := by
  obtain ⟨c, h1, h2⟩ := same_class h
  unfold clsAt
  rw [h1]; rfl
theorem cls_law {s : Str} (h : s ∈ LINES) : lcW (wordsOf s) = some (clsAt s) := by
  obtain ⟨c, h1, h2⟩ := same_class h
  unfold clsAt
  rw [h1, h2]; rfl
def adv (c : Cls) : Nat := if c.1 = 4 then 1 + c.2.2.2 else 1
def goAll (L : List Str) : Nat → Nat → List D → Nat ⊕ List D
  | 0, _, acc => .inr acc
  | d + 1, k, acc => match L[k]? with
    | none => .inr acc
    | some s => match runC (clsAt s) L k with
      | .inl j => .inl j
      | .inr x => goAll L d (k + adv (clsAt s)) (acc ++ [x])
theorem cls_ok : ∀ s ∈ LINES, (clsAt s).1 ≤ 4 ∧ ((clsAt s).1 = 4 → 1 ≤ (clsAt s).2.2.2 ∧ (clsAt s).2.2.2 ≤ 3) := by decide +kernel
end K94
namespace K94
open PySem (Str)
open DL L2
theorem tl_shaped : ∀ s ∈ LINES, PySem.SeqAt.shaped (.str (tl s)) = true := by decide +kernel
theorem back_ne : T "back" ≠ T "put" ∧ T "drop" ≠ T "put" ∧ T "read" ≠ T "put" := by decide +kernel
section
variable {L : List Str}
def Row (r : Str) : Prop := r.length ≤ 60 ∧ 10 ∉ r.cps.toList ∧ shapedS r
theorem row_of {s : Str} (h : s ∈ LINES) : Row (tl s) := ⟨(lines_cut s h).2.1, (lines_cut s h).2.2, tl_shaped s h⟩
theorem runC_shape (hL : ∀ s ∈ L, s ∈ LINES) {s : Str} (hs : s ∈ LINES) {k : Nat} {x : D} (h : runC (clsAt s) L k = .inr x) :
    ((clsAt s).1 ≠ 4 ∧ ∃ t r, x = .tuple (.str t :: r) ∧ shapedS t ∧ t ≠ T "put") ∨ ((clsAt s).1 = 4 ∧ ∃ n rs, x = .tuple [.str (T "put"), .str n, .str (joinN rs)] ∧ rs ≠ [] ∧ rs.length ≤ 3 ∧ rs.length = (clsAt s).2.2.2 ∧ ∀ r ∈ rs, Row r) := by
  have ck := cls_ok s hs
  generalize clsAt s = c at *
  obtain ⟨t, n, l, m⟩ := c
  match t, h, ck with
  | 0, h, _ => cases h
  | 1, h, _ => cases h; exact .inl ⟨(by show (1 : Nat) ≠ 4; decide), _, _, rfl, sh_back, back_ne.1⟩
  | 2, h, _ => cases h; exact .inl ⟨(by show (2 : Nat) ≠ 4; decide), _, _, rfl, sh_drop, back_ne.2.1⟩
  | 3, h, _ => cases h; exact .inl ⟨(by show (3 : Nat) ≠ 4; decide), _, _, rfl, sh_read, back_ne.2.2⟩
  | 4, h, ck =>
    have un : runC (4, n, l, m) L k = match rowsAt (L.drop (k + 1)) (k + 1) m with | .inl j => .inl j | .inr rs => .inr (.tuple [.str (T "put"), .str n, .str (PySem.Txt.join (T "\n") rs)]) := rfl
    rw [un] at h
    cases q : rowsAt (L.drop (k + 1)) (k + 1) m with
    | inl j => rw [q] at h; cases h
    | inr rs =>
      rw [q] at h
      cases h
      obtain ⟨h1, h2, h3⟩ := rows_len q
      obtain ⟨c1, c2⟩ := ck.2 rfl
      refine .inr ⟨rfl, n, rs, rfl, ?_, by rw [h1]; exact c2, h1, fun r hr => ?_⟩
      · intro z
        rw [z] at h1
        have : 1 ≤ m := c1
        simp at h1
        omega
      · rw [h2] at hr
        obtain ⟨s, hs, rfl⟩ := List.mem_map.mp hr
        exact row_of (hL s (List.mem_of_mem_drop (List.mem_of_mem_take hs)))
  | t + 5, h, ck => exact absurd ck.1 (by simp)
theorem row_split {rs : List Str} (hne : rs ≠ []) (h3 : rs.length ≤ 3) (h : ∀ r ∈ rs, Row r) : splitD (.d (.str (joinN rs))) (.d (.str (T "\n"))) = .ok (.own (txs rs)) := by
  rw [splitD_str (by decide) (by have := join_len fun p hp => (h p hp).1; omega), split_joinN hne fun p hp => (h p hp).2.1]
  rfl
theorem while_stop {c : Env → R Bool} {g : Env → Out} {n : Nat} {e : Env} (h : c e = .ok false) : whileD c g (n + 1) e = .nx e := by
  show (c e).into e (fun b => if b = true then (match g e with | .nx e' => whileD c g n e' | .ct e' => whileD c g n e' | .bk e' => .nx e' | o => o) else .nx e) = _
  rw [h]; rfl
theorem while_nx {c : Env → R Bool} {g : Env → Out} {n : Nat} {e e' : Env} (h : c e = .ok true) (h2 : g e = .nx e') : whileD c g (n + 1) e = whileD c g n e' := by
  show (c e).into e (fun b => if b = true then (match g e with | .nx e' => whileD c g n e' | .ct e' => whileD c g n e' | .bk e' => .nx e' | o => o) else .nx e) = _
  rw [h, R.into_ok, if_pos rfl, h2]
theorem while_ex {c : Env → R Bool} {g : Env → Out} {n : Nat} {e e' : Env} {k : Str} {fs : List (Str × D)} (h : c e = .ok true) (h2 : g e = .ex k fs e') : whileD c g (n + 1) e = .ex k fs e' := by
  show (c e).into e (fun b => if b = true then (match g e with | .nx e' => whileD c g n e' | .ct e' => whileD c g n e' | .bk e' => .nx e' | o => o) else .nx e) = _
  rw [h, R.into_ok, if_pos rfl, h2]
theorem while_rt {c : Env → R Bool} {g : Env → Out} {n : Nat} {e : Env} {v : Cell} (h : c e = .ok true) (h2 : g e = .rt v) : whileD c g (n + 1) e = .rt v := by
  show (c e).into e (fun b => if b = true then (match g e with | .nx e' => whileD c g n e' | .ct e' => whileD c g n e' | .bk e' => .nx e' | o => o) else .nx e) = _
  rw [h, R.into_ok, if_pos rfl, h2]
/-- a slot that holds the lines -/
def Holds (L : List Str) (lc : Cell) : Prop := lc = .own (txs L) ∨ lc = .d (.list (txs L))
theorem prog_step (hL : ∀ s ∈ L, s ∈ LINES) (hl : L.length ≤ 1000) {k : Nat} {s : Str} (hs : L[k]? = some s) {lc x0 x4 : Cell} (hc : Holds L lc) {acc : List D} (ha : acc.length < 16777216) :
    match runC (clsAt s) L k with
    | .inr x => ∃ lc', Holds L lc' ∧ l1_parse_log [x0, lc, .own acc, .d (.int (k : Int)), x4] = .nx [x0, lc', .own (acc ++ [x]), .d (.int ((k + adv (clsAt s) : Nat) : Int)), .d x]
    | .inl j => ∃ e, l1_parse_log [x0, lc, .own acc, .d (.int (k : Int)), x4] = .ex (Str.ofString "BadLog") [(Str.ofString "line", .int (j : Int))] e := by
  have hm : s ∈ LINES := hL s (List.mem_of_getElem? hs)
  have pl := parse_line_ok hL hl hs (cls_prog hm)
  have mk : ∀ s : String, Str.ofString s = T s := fun _ => rfl
  have ha' : ¬ 16777216 ≤ acc.length := Nat.not_le.mpr ha
  cases r : runC (clsAt s) L k with
  | inl j =>
    rw [r] at pl
    unfold progR at pl
    dsimp only
    rcases hc with rfl | rfl
    · exact ⟨[x0, .d (.list (txs L)), .own acc, .d (.int (k : Int)), x4], by simp -implicitDefEqProofs [l1_parse_log, pl, mk]⟩
    · exact ⟨[x0, .d (.list (txs L)), .own acc, .d (.int (k : Int)), x4], by simp -implicitDefEqProofs [l1_parse_log, pl, mk]⟩
  | inr x =>
    rw [r] at pl
    unfold progR at pl
    dsimp only at pl ⊢
    rcases runC_shape hL hm r with ⟨h4, t, rr, rfl, ht, hne⟩ | ⟨h4, n, rs, rfl, hrs, h3, hlen, hrow⟩
    · have e0 : idxD (.d (.tuple (.str t :: rr))) (.d (.int 0)) = .ok (.d (.str t)) := idx_tuple (xs := .str t :: rr) (k := 0) rfl
      have ep := str_shaped ht sh_put
      rw [decide_eq_false hne] at ep
      have ad : adv (clsAt s) = 1 := if_neg h4
      rw [ad]
      refine ⟨.d (.list (txs L)), .inr rfl, ?_⟩
      rw [show ((k + 1 : Nat) : Int) = (k : Int) + 1 from rfl]
      generalize PySem.PyData.tuple (.str t :: rr) = x at *
      rcases hc with rfl | rfl
      · simp -implicitDefEqProofs [-Nat.not_le, l1_parse_log, pl, mk, setR, e0, ep, ha, ha']
      · simp -implicitDefEqProofs [-Nat.not_le, l1_parse_log, pl, mk, setR, e0, ep, ha, ha']
    · have e0 : idxD (.d (.tuple [.str (T "put"), .str n, .str (joinN rs)])) (.d (.int 0)) = .ok (.d (.str (T "put"))) := rfl
      have e2 : idxD (.d (.tuple [.str (T "put"), .str n, .str (joinN rs)])) (.d (.int 2)) = .ok (.d (.str (joinN rs))) := rfl
      have ep := str_shaped sh_put sh_put
      rw [decide_eq_true rfl] at ep
      have sp := row_split hrs h3 hrow
      have ll : lenD (.own (txs rs)) = .ok (.d (.int (rs.length : Int))) := by rw [len_own, txs_len]
      have ad : adv (clsAt s) = 1 + rs.length := by rw [hlen]; exact if_pos h4
      rw [ad]
      refine ⟨.d (.list (txs L)), .inr rfl, ?_⟩
      rw [show ((k + (1 + rs.length) : Nat) : Int) = (k : Int) + 1 + (rs.length : Int) by omega]
      generalize PySem.PyData.tuple [.str (T "put"), .str n, .str (joinN rs)] = x at *
      generalize txs rs = RS at *
      rcases hc with rfl | rfl
      · simp -implicitDefEqProofs [-Nat.not_le, -len_own, l1_parse_log, pl, mk, setR, e0, e2, ep, sp, ll, ha, ha']
      · simp -implicitDefEqProofs [-Nat.not_le, -len_own, l1_parse_log, pl, mk, setR, e0, e2, ep, sp, ll, ha, ha']
theorem prog_loop (hL : ∀ s ∈ L, s ∈ LINES) (hl : L.length ≤ 1000) {x0 : Cell} : ∀ (d k n : Nat) (acc : List D) (lc x4 : Cell), L.length - k ≤ d → d < n → acc.length + d ≤ 5000 → Holds L lc →
    match goAll L d k acc with
    | .inr ds => ∃ lc' y3 y4, whileD l0_parse_log l1_parse_log n [x0, lc, .own acc, .d (.int (k : Int)), x4] = .nx [x0, lc', .own ds, y3, y4]
    | .inl j => ∃ e, whileD l0_parse_log l1_parse_log n [x0, lc, .own acc, .d (.int (k : Int)), x4] = .ex (Str.ofString "BadLog") [(Str.ofString "line", .int (j : Int))] e := by
  intro d
  induction d with
  | zero =>
    intro k n acc lc x4 hd hn ha hc
    obtain ⟨n, rfl⟩ : ∃ m, n = m + 1 := ⟨n - 1, by omega⟩
    have hk : ¬ (k : Int) < (L.length : Int) := by omega
    have t : l0_parse_log [x0, lc, .own acc, .d (.int (k : Int)), x4] = .ok false := by
      rcases hc with rfl | rfl
      · simp -implicitDefEqProofs [-Int.not_lt, l0_parse_log, txs_len, hk]
      · simp -implicitDefEqProofs [-Int.not_lt, l0_parse_log, txs_len, hk]
    exact ⟨lc, _, _, while_stop t⟩
  | succ d ih =>
    intro k n acc lc x4 hd hn ha hc
    obtain ⟨n, rfl⟩ : ∃ m, n = m + 1 := ⟨n - 1, by omega⟩
    by_cases hlt : k < L.length
    · have hs : L[k]? = some L[k] := List.getElem?_eq_getElem hlt
      have st := prog_step hL hl hs (x0 := x0) (x4 := x4) hc (acc := acc) (by omega)
      have t : l0_parse_log [x0, lc, .own acc, .d (.int (k : Int)), x4] = .ok true := by
        rcases hc with rfl | rfl
        · simp -implicitDefEqProofs [l0_parse_log, txs_len, hlt]
        · simp -implicitDefEqProofs [l0_parse_log, txs_len, hlt]
      have un : goAll L (d + 1) k acc = match runC (clsAt L[k]) L k with | .inl j => .inl j | .inr x => goAll L d (k + adv (clsAt L[k])) (acc ++ [x]) := by
        show (match L[k]? with | none => _ | some s => _) = _
        rw [hs]
        try rfl
      rw [un]
      cases r : runC (clsAt L[k]) L k with
      | inl j =>
        rw [r] at st
        obtain ⟨e, he⟩ := st
        exact ⟨e, while_ex t he⟩
      | inr x =>
        rw [r] at st
        obtain ⟨lc', hc', he⟩ := st
        rw [while_nx t he]
        have hadv : 1 ≤ adv (clsAt L[k]) := by unfold adv; split <;> omega
        exact ih (k + adv (clsAt L[k])) n (acc ++ [x]) lc' (.d x) (by omega) (by omega) (by rw [List.length_append]; simp; omega) hc'
    · have un : goAll L (d + 1) k acc = .inr acc := by
        show (match L[k]? with | none => _ | some s => _) = _
        rw [List.getElem?_eq_none (by omega)]
      rw [un]
      have hk : ¬ (k : Int) < (L.length : Int) := by omega
      have t : l0_parse_log [x0, lc, .own acc, .d (.int (k : Int)), x4] = .ok false := by
        rcases hc with rfl | rfl
        · simp -implicitDefEqProofs [-Int.not_lt, l0_parse_log, txs_len, hk]
        · simp -implicitDefEqProofs [-Int.not_lt, l0_parse_log, txs_len, hk]
      exact ⟨lc, _, _, while_stop t⟩
end
end K94
namespace K94
open PySem (Str)
open DL L2
def sign (c : Nat) : D := .str ⟨#[c]⟩
def isNl : D → Bool
  | .str s => decide (s = T "\n")
  | _ => false
theorem nl_is : T "\n" = ⟨#[10]⟩ := by decide +kernel
theorem sh_nl : shapedS (T "\n") := by unfold shapedS; decide +kernel
theorem sign_nl (c : Nat) : isNl (sign c) = decide (c = 10) := by
  show decide ((⟨#[c]⟩ : Str) = T "\n") = _
  rw [nl_is]
  by_cases h : c = 10
  · subst h
    rfl
  · rw [decide_eq_false h]
    refine decide_eq_false fun z => h ?_
    have : #[c] = #[10] := congrArg Str.cps z
    simpa using this
theorem count_nl (t : Str) (ht : shapedS t) (hl : t.length ≤ 16777216) (e : Env) : lcL (lcD [5] (.nm 5) (fun en => (((getC 5 en).bind fun x => (cstD (.str (Str.ofString "\n")) en).bind fun y => eqD x y).bind asB)) (fun en => (varD 5 en)) (t.cps.toList.map sign) e) = .ok (.own (((t.cps.toList.map sign).filter isNl).map fun x => x)) ∨ e.length ≤ 5 := by
  by_cases he : e.length ≤ 5
  · exact .inr he
  · refine .inl (lcL_filter (p := isNl) (g := fun x => x) ?_ ?_ ?_)
    · rw [List.length_map]
      have : t.cps.toList.length = t.length := by
        show _ = t.cps.size
        simp
      omega
    · intro x hx
      obtain ⟨c, hc, rfl⟩ := List.mem_map.mp hx
      have hs : shapedS ⟨#[c]⟩ := shapedS_iff.mpr fun d hd => by
        have : d = c := by simpa using hd
        rw [this]
        exact shapedS_iff.mp ht c hc
      have g5 : getC 5 ((wipeC e [5]).set 5 (.d (sign c))) = .ok (.d (sign c)) := by
        unfold getC
        rw [List.getElem?_set_self (by simp; omega)]
      have eq := str_shaped hs sh_nl
      have mk : Str.ofString "\n" = T "\n" := rfl
      have e2 : isNl (sign c) = decide ((⟨#[c]⟩ : Str) = T "\n") := rfl
      rw [e2]
      rw [g5, R.bind_ok, cstD_eq, R.bind_ok, mk]
      show (eqD (.d (.str ⟨#[c]⟩)) (.d (.str (T "\n")))).bind asB = _
      rw [eq]
      rfl
    · intro x hx _
      obtain ⟨c, hc, rfl⟩ := List.mem_map.mp hx
      unfold varD getC
      rw [List.getElem?_set_self (by simp; omega)]
      rfl
theorem count_len (t : Str) : (((t.cps.toList.map sign).filter isNl).map fun x => x).length = (t.cps.toList.filter (fun c => decide (c = 10))).length := by
  rw [List.length_map, List.filter_map, List.length_map]
  congr 2
  funext c
  exact sign_nl c
section
variable {L : List Str}
theorem due_step (hL : ∀ s ∈ L, s ∈ LINES) (hl : L.length ≤ 1000) {k : Nat} {s : Str} (hs : L[k]? = some s) {lc x0 x4 x5 : Cell} (hc : Holds L lc) {acc : List D} (ha : acc.length < 16777216) :
    match runC (clsAt s) L k with
    | .inr x => ∃ lc' y5, Holds L lc' ∧ l1_law_due [x0, lc, .own acc, .d (.int (k : Int)), x4, x5] = .nx [x0, lc', .own (acc ++ [x]), .d (.int ((k + adv (clsAt s) : Nat) : Int)), .d x, y5]
    | .inl j => l1_law_due [x0, lc, .own acc, .d (.int (k : Int)), x4, x5] = .rt (.d (.int (j : Int))) := by
  have hm : s ∈ LINES := hL s (List.mem_of_getElem? hs)
  have pl := law_line_ok hL hl hs (cls_law hm)
  have mk : ∀ s : String, Str.ofString s = T s := fun _ => rfl
  have ha' : ¬ 16777216 ≤ acc.length := Nat.not_le.mpr ha
  cases r : runC (clsAt s) L k with
  | inl j =>
    rw [r] at pl
    unfold lawR at pl
    dsimp only at pl ⊢
    rcases hc with rfl | rfl
    · simp -implicitDefEqProofs [l1_law_due, pl, mk, isiD, setR]
    · simp -implicitDefEqProofs [l1_law_due, pl, mk, isiD, setR]
  | inr x =>
    rw [r] at pl
    unfold lawR at pl
    dsimp only at pl ⊢
    rcases runC_shape hL hm r with ⟨h4, t, rr, rfl, ht, hne⟩ | ⟨h4, n, rs, rfl, hrs, h3, hlen, hrow⟩
    · have e0 : idxD (.d (.tuple (.str t :: rr))) (.d (.int 0)) = .ok (.d (.str t)) := idx_tuple (xs := .str t :: rr) (k := 0) rfl
      have ii : isiD "int" (.d (.tuple (.str t :: rr))) = .ok (.d (.bool false)) := rfl
      have ep := str_shaped ht sh_put
      rw [decide_eq_false hne] at ep
      have ad : adv (clsAt s) = 1 := if_neg h4
      rw [ad]
      refine ⟨.d (.list (txs L)), x5, .inr rfl, ?_⟩
      rw [show ((k + 1 : Nat) : Int) = (k : Int) + 1 from rfl]
      generalize PySem.PyData.tuple (.str t :: rr) = x at *
      rcases hc with rfl | rfl
      · simp -implicitDefEqProofs [-Nat.not_le, l1_law_due, pl, mk, setR, e0, ii, ep, ha, ha']
      · simp -implicitDefEqProofs [-Nat.not_le, l1_law_due, pl, mk, setR, e0, ii, ep, ha, ha']
    · have e0 : idxD (.d (.tuple [.str (T "put"), .str n, .str (joinN rs)])) (.d (.int 0)) = .ok (.d (.str (T "put"))) := rfl
      have e2 : idxD (.d (.tuple [.str (T "put"), .str n, .str (joinN rs)])) (.d (.int 2)) = .ok (.d (.str (joinN rs))) := rfl
      have ii : isiD "int" (.d (.tuple [.str (T "put"), .str n, .str (joinN rs)])) = .ok (.d (.bool false)) := rfl
      have ep := str_shaped sh_put sh_put
      rw [decide_eq_true rfl] at ep
      have hsh := join_shaped fun p hp => (hrow p hp).2.2
      have hjl := join_len fun p hp => (hrow p hp).1
      have cn := fun e : Env => count_nl (joinN rs) hsh (by omega) e
      have cl := count_len (joinN rs)
      have cj := join_count hrs fun p hp => (hrow p hp).2.1
      rw [← cl] at cj
      have it : itemsA (.d (.str (joinN rs))) = .ok ((joinN rs).cps.toList.map sign) := rfl
      generalize hCN : ((((joinN rs).cps.toList.map sign).filter isNl).map fun x => x) = CN at *
      have ll : lenD (.own CN) = .ok (.d (.int (CN.length : Int))) := rfl
      have ad : adv (clsAt s) = 1 + rs.length := by rw [hlen]; exact if_pos h4
      rw [ad]
      refine ⟨.d (.list (txs L)), x5, .inr rfl, ?_⟩
      rw [show ((k + (1 + rs.length) : Nat) : Int) = (k : Int) + 1 + 1 + (CN.length : Int) by omega]
      generalize PySem.PyData.tuple [.str (T "put"), .str n, .str (joinN rs)] = x at *
      generalize (joinN rs).cps.toList.map sign = SG at *
      have cn := (cn [x0, .d (.list (txs L)), .own (acc ++ [x]), .d (.int ((k : Int) + 1)), .d x, x5]).resolve_right (by simp)
      simp -implicitDefEqProofs [mk] at cn
      rcases hc with rfl | rfl
      · simp -implicitDefEqProofs [-Nat.not_le, -len_own, -itemsA_text, l1_law_due, pl, mk, setR, e0, e2, ii, ep, it, cn, ll, ha, ha']
      · simp -implicitDefEqProofs [-Nat.not_le, -len_own, -itemsA_text, l1_law_due, pl, mk, setR, e0, e2, ii, ep, it, cn, ll, ha, ha']
theorem due_loop (hL : ∀ s ∈ L, s ∈ LINES) (hl : L.length ≤ 1000) {x0 : Cell} : ∀ (d k n : Nat) (acc : List D) (lc x4 x5 : Cell), L.length - k ≤ d → d < n → acc.length + d ≤ 5000 → Holds L lc →
    match goAll L d k acc with
    | .inr ds => ∃ lc' y3 y4 y5, whileD l0_law_due l1_law_due n [x0, lc, .own acc, .d (.int (k : Int)), x4, x5] = .nx [x0, lc', .own ds, y3, y4, y5]
    | .inl j => whileD l0_law_due l1_law_due n [x0, lc, .own acc, .d (.int (k : Int)), x4, x5] = .rt (.d (.int (j : Int))) := by
  intro d
  induction d with
  | zero =>
    intro k n acc lc x4 x5 hd hn ha hc
    obtain ⟨n, rfl⟩ : ∃ m, n = m + 1 := ⟨n - 1, by omega⟩
    have hk : ¬ (k : Int) < (L.length : Int) := by omega
    have t : l0_law_due [x0, lc, .own acc, .d (.int (k : Int)), x4, x5] = .ok false := by
      rcases hc with rfl | rfl
      · simp -implicitDefEqProofs [-Int.not_lt, l0_law_due, txs_len, hk]
      · simp -implicitDefEqProofs [-Int.not_lt, l0_law_due, txs_len, hk]
    exact ⟨lc, _, _, _, while_stop t⟩
  | succ d ih =>
    intro k n acc lc x4 x5 hd hn ha hc
    obtain ⟨n, rfl⟩ : ∃ m, n = m + 1 := ⟨n - 1, by omega⟩
    by_cases hlt : k < L.length
    · have hs : L[k]? = some L[k] := List.getElem?_eq_getElem hlt
      have st := due_step hL hl hs (x0 := x0) (x4 := x4) (x5 := x5) hc (acc := acc) (by omega)
      have t : l0_law_due [x0, lc, .own acc, .d (.int (k : Int)), x4, x5] = .ok true := by
        rcases hc with rfl | rfl
        · simp -implicitDefEqProofs [l0_law_due, txs_len, hlt]
        · simp -implicitDefEqProofs [l0_law_due, txs_len, hlt]
      have un : goAll L (d + 1) k acc = match runC (clsAt L[k]) L k with | .inl j => .inl j | .inr x => goAll L d (k + adv (clsAt L[k])) (acc ++ [x]) := by
        show (match L[k]? with | none => _ | some s => _) = _
        rw [hs]
        try rfl
      rw [un]
      cases r : runC (clsAt L[k]) L k with
      | inl j =>
        rw [r] at st
        exact while_rt t st
      | inr x =>
        rw [r] at st
        obtain ⟨lc', y5, hc', he⟩ := st
        rw [while_nx t he]
        have hadv : 1 ≤ adv (clsAt L[k]) := by unfold adv; split <;> omega
        exact ih (k + adv (clsAt L[k])) n (acc ++ [x]) lc' (.d x) y5 (by omega) (by omega) (by rw [List.length_append]; simp; omega) hc'
    · have un : goAll L (d + 1) k acc = .inr acc := by
        show (match L[k]? with | none => _ | some s => _) = _
        rw [List.getElem?_eq_none (by omega)]
      rw [un]
      have hk : ¬ (k : Int) < (L.length : Int) := by omega
      have t : l0_law_due [x0, lc, .own acc, .d (.int (k : Int)), x4, x5] = .ok false := by
        rcases hc with rfl | rfl
        · simp -implicitDefEqProofs [-Int.not_lt, l0_law_due, txs_len, hk]
        · simp -implicitDefEqProofs [-Int.not_lt, l0_law_due, txs_len, hk]
      exact ⟨lc, _, _, _, while_stop t⟩
end
end K94
namespace K94
open PySem (Str)
open DL L2
/-! ### a value is alike itself -/
mutual
def slim : D → Bool
  | .none | .bool _ | .int _ | .str _ => true
  | .list xs => decide (xs.length ≤ 100000) && slimAll xs
  | .tuple xs => decide (xs.length ≤ 100000) && slimAll xs
  | .dict _ => false
def slimAll : List D → Bool
  | [] => true
  | x :: xs => slim x && slimAll xs
end
theorem slim_mem : ∀ (xs : List D) (x : D), slimAll xs = true → x ∈ xs → slim x = true
  | y :: r, x, h, hx => by
    have h' := Bool.and_eq_true_iff.mp (show (slim y && slimAll r) = true from h)
    rcases List.mem_cons.mp hx with rfl | hx'
    · exact h'.1
    · exact slim_mem r x h'.2 hx'
theorem leaf_eq {x : D} (h : x.canLay0 = true) (h2 : x.depth = 0) : eqD (.d x) (.d x) = .ok (.d (.bool true)) := by
  have hs : PySem.SeqAt.shaped x = true := by
    unfold PySem.SeqAt.shaped
    rw [h, h2]; rfl
  rw [eqD_ok hs hs, PySem.SeqAt.eqv_refl x h]
theorem len_ne {n : Nat} : neD (.d (.int (n : Int))) (.d (.int (n : Int))) = .ok (.d (.bool false)) := by
  rw [neD_ok rfl rfl, PySem.SeqAt.eqv_refl _ rfl]; rfl
theorem alike_items {rec : List D → R Cell} {xs : List D} {c0 c1 : Cell} {x2 : Cell} (hi : ∀ (i : Nat) (x : D), xs[i]? = some x → idxD c0 (.d (.int (i : Int))) = .ok (.d x) ∧ idxD c1 (.d (.int (i : Int))) = .ok (.d x)) (hr : ∀ x ∈ xs, rec [x, x] = .ok (.d (.bool true)))
    (g0 : ∀ e, getC 0 (c0 :: e) = .ok c0) (g1 : ∀ e, getC 0 (c1 :: e) = .ok c1) : ∃ y2, forD (turnD (.nm 2) (l0_law_alike rec)) (upFrom 0 xs.length) [c0, c1, x2] = .nx [c0, c1, y2] := by
  obtain ⟨e', f1, f2⟩ := forD_ind (g := turnD (.nm 2) (l0_law_alike rec)) (xs := upFrom 0 xs.length) (e := [c0, c1, x2]) (P := fun i e => ∃ y2, e = [c0, c1, y2]) ⟨x2, rfl⟩ (fun i x e hx hP => by
    obtain ⟨y2, rfl⟩ := hP
    obtain ⟨li, rfl⟩ := upz_get hx
    have hx' : xs[i]? = some xs[i] := List.getElem?_eq_getElem li
    obtain ⟨j0, j1⟩ := hi i _ hx'
    have hr' := hr _ (List.getElem_mem li)
    refine ⟨[c0, c1, .d (.int (i : Int))], ?_, _, rfl⟩
    simp -implicitDefEqProofs [l0_law_alike, g0, g1, j0, j1, hr'])
  obtain ⟨y2, rfl⟩ := f2
  exact ⟨y2, f1⟩
theorem alike_same : ∀ (n : Nat) (x : D), x.canLay0 = true → slim x = true → x.depth < n → m_law_alike n [x, x] = .ok (.d (.bool true)) := by
  intro n
  induction n with
  | zero => exact fun x _ _ h => absurd h (Nat.not_lt_zero _)
  | succ n ih =>
    intro x hc hs hd
    show runD 3 2 (g_law_alike (m_law_alike n)) [x, x] = _
    unfold runD g_law_alike
    cases x with
    | none => simp -implicitDefEqProofs [startD]
    | bool b => simp -implicitDefEqProofs [startD, isiD, leaf_eq hc rfl]
    | int i => simp -implicitDefEqProofs [startD, isiD, leaf_eq hc rfl]
    | str s => simp -implicitDefEqProofs [startD, isiD, leaf_eq hc rfl]
    | dict kvs => exact absurd hc (by intro h; cases h)
    | list xs =>
      have hs' := Bool.and_eq_true_iff.mp (show (decide (xs.length ≤ 100000) && slimAll xs) = true from hs)
      have hl := of_decide_eq_true hs'.1
      have hd' : PySem.PyData.depthAll xs + 1 < n + 1 := hd
      obtain ⟨y2, hf⟩ := alike_items (rec := m_law_alike n) (xs := xs) (c0 := .d (.list xs)) (c1 := .d (.list xs)) (x2 := .un) (fun i x h => ⟨idx_list h, idx_list h⟩) (fun x hx => ih x (PySem.PyData.canLay0_of_mem xs x hc hx) (slim_mem xs x hs'.2 hx) (by have := PySem.PyData.depth_le_depthAll xs x hx; omega)) (fun _ => rfl) (fun _ => rfl)
      have r1 := rng1_nat (n := xs.length) (by omega)
      simp -implicitDefEqProofs [startD, isiD, len_ne, r1, hf]
    | tuple xs =>
      have hs' := Bool.and_eq_true_iff.mp (show (decide (xs.length ≤ 100000) && slimAll xs) = true from hs)
      have hl := of_decide_eq_true hs'.1
      have hd' : PySem.PyData.depthAll xs + 1 < n + 1 := hd
      obtain ⟨y2, hf⟩ := alike_items (rec := m_law_alike n) (xs := xs) (c0 := .d (.tuple xs)) (c1 := .d (.tuple xs)) (x2 := .un) (fun i x h => ⟨idx_tuple h, idx_tuple h⟩) (fun x hx => ih x (PySem.PyData.canLay0_of_mem xs x hc hx) (slim_mem xs x hs'.2 hx) (by have := PySem.PyData.depth_le_depthAll xs x hx; omega)) (fun _ => rfl) (fun _ => rfl)
      have r1 := rng1_nat (n := xs.length) (by omega)
      simp -implicitDefEqProofs [startD, isiD, len_ne, r1, hf]

/-! ### results -/
def Fine (x : D) : Prop := x.canLay0 = true ∧ slim x = true ∧ x.depth ≤ 2
theorem str_fine {s : Str} (h : shapedS s) : (PySem.PyData.str s).canLay0 = true := PySem.SeqAt.canLay_of_shaped h
theorem items_fine : ∀ l : List (Option Int), PySem.PyData.canLayAll0 (l.map optI) = true ∧ slimAll (l.map optI) = true ∧ PySem.PyData.depthAll (l.map optI) = 0
  | [] => ⟨rfl, rfl, rfl⟩
  | none :: l => ⟨(items_fine l).1, (items_fine l).2.1, by show max 0 (PySem.PyData.depthAll (l.map optI)) = 0; rw [(items_fine l).2.2]; rfl⟩
  | some i :: l => ⟨(items_fine l).1, (items_fine l).2.1, by show max 0 (PySem.PyData.depthAll (l.map optI)) = 0; rw [(items_fine l).2.2]; rfl⟩
theorem cls_fine : ∀ s ∈ LINES, PySem.SeqAt.shaped (.str (clsAt s).2.1) = true ∧ (clsAt s).2.2.1.length ≤ 1000 := by decide +kernel
theorem tup2_fine {t n : Str} (ht : shapedS t) (hn : shapedS n) : Fine (.tuple [.str t, .str n]) := by
  refine ⟨?_, rfl, by show max 0 (max 0 0) + 1 ≤ 2; decide⟩
  show ((PySem.PyData.str t).canLay0 && ((PySem.PyData.str n).canLay0 && true)) = true
  rw [str_fine ht, str_fine hn]; rfl
def nameOf : D → Str
  | .tuple [_, .str a, _] => a
  | _ => T ""
theorem runC_fine {L : List Str} (hL : ∀ s ∈ L, s ∈ LINES) {s : Str} (hs : s ∈ LINES) {k : Nat} {x : D} (h : runC (clsAt s) L k = .inr x) : Fine x := by
  have ck := cls_ok s hs
  have cf := cls_fine s hs
  have sh := runC_shape hL hs h
  generalize clsAt s = c at *
  obtain ⟨t, n, l, m⟩ := c
  match t, h, ck, cf, sh with
  | 0, h, _, _, _ => cases h
  | 1, h, _, _, _ =>
    cases h
    refine ⟨?_, rfl, by show max 0 0 + 1 ≤ 2; decide⟩
    show ((PySem.PyData.str (T "back")).canLay0 && true) = true
    rw [str_fine sh_back]; rfl
  | 2, h, _, cf, _ => cases h; exact tup2_fine sh_drop cf.1
  | 3, h, _, cf, _ =>
    cases h
    obtain ⟨f1, f2, f3⟩ := items_fine l
    refine ⟨?_, ?_, ?_⟩
    · show ((PySem.PyData.str (T "read")).canLay0 && ((PySem.PyData.str n).canLay0 && (PySem.PyData.canLayAll0 (l.map optI) && true))) = true
      rw [str_fine sh_read, str_fine cf.1, f1]; rfl
    · show (true && (true && (true && ((decide ((l.map optI).length ≤ 100000) && slimAll (l.map optI)) && true)))) = true
      rw [f2, decide_eq_true (by rw [List.length_map]; have := cf.2; dsimp only at this; omega)]; rfl
    · show max 0 (max 0 (max (PySem.PyData.depthAll (l.map optI) + 1) 0)) + 1 ≤ 2
      rw [f3]; decide
  | 4, h, _, cf, sh =>
    rcases sh with ⟨h4, _⟩ | ⟨_, n', rs, hx, _, _, _, hrow⟩
    · exact absurd rfl h4
    · have hn : n' = n := by
        have un : runC (4, n, l, m) L k = match rowsAt (L.drop (k + 1)) (k + 1) m with | .inl j => .inl j | .inr rs => .inr (.tuple [.str (T "put"), .str n, .str (PySem.Txt.join (T "\n") rs)]) := rfl
        rw [un] at h
        cases q : rowsAt (L.drop (k + 1)) (k + 1) m with
        | inl j => rw [q] at h; cases h
        | inr rs' =>
          rw [q] at h
          have h' := Sum.inr.inj h
          rw [hx] at h'
          exact (congrArg nameOf h').symm
      subst hn
      subst hx
      have hj := join_shaped fun p hp => (hrow p hp).2.2
      refine ⟨?_, rfl, by show max 0 (max 0 (max 0 0)) + 1 ≤ 2; decide⟩
      show ((PySem.PyData.str (T "put")).canLay0 && ((PySem.PyData.str n').canLay0 && ((PySem.PyData.str (joinN rs)).canLay0 && true))) = true
      rw [str_fine sh_put, str_fine cf.1, str_fine hj]; rfl
  | t + 5, h, ck, _, _ => exact absurd ck.1 (by simp)
theorem goAll_fine {L : List Str} (hL : ∀ s ∈ L, s ∈ LINES) : ∀ (d k : Nat) (acc ds : List D), (∀ x ∈ acc, Fine x) → goAll L d k acc = .inr ds → (∀ x ∈ ds, Fine x) ∧ ds.length ≤ acc.length + d
  | 0, k, acc, ds, h, e => by cases e; exact ⟨h, Nat.le_refl _⟩
  | d + 1, k, acc, ds, h, e => by
    have un : goAll L (d + 1) k acc = match L[k]? with | none => .inr acc | some s => match runC (clsAt s) L k with | .inl j => .inl j | .inr x => goAll L d (k + adv (clsAt s)) (acc ++ [x]) := rfl
    rw [un] at e
    cases q : L[k]? with
    | none => rw [q] at e; cases e; exact ⟨h, by omega⟩
    | some s =>
      rw [q] at e
      dsimp only at e
      have hs : s ∈ LINES := hL s (List.mem_of_getElem? q)
      cases r : runC (clsAt s) L k with
      | inl j => rw [r] at e; cases e
      | inr x =>
        rw [r] at e
        have fx := runC_fine hL hs r
        obtain ⟨h1, h2⟩ := goAll_fine hL d (k + adv (clsAt s)) (acc ++ [x]) ds (fun y hy => by
          rcases List.mem_append.mp hy with hy | hy
          · exact h y hy
          · rw [List.mem_singleton.mp hy]; exact fx) e
        refine ⟨h1, ?_⟩
        rw [List.length_append] at h2
        simp at h2
        omega
theorem list_fine : ∀ {ds : List D}, (∀ x ∈ ds, Fine x) → PySem.PyData.canLayAll0 ds = true ∧ slimAll ds = true ∧ PySem.PyData.depthAll ds ≤ 2
  | [], _ => ⟨rfl, rfl, by decide⟩
  | x :: ds, h => by
    obtain ⟨h1, h2, h3⟩ := list_fine fun y hy => h y (List.mem_cons_of_mem _ hy)
    obtain ⟨f1, f2, f3⟩ := h x List.mem_cons_self
    refine ⟨?_, ?_, ?_⟩
    · show (x.canLay0 && PySem.PyData.canLayAll0 ds) = true
      rw [f1, h1]; rfl
    · show (slim x && slimAll ds) = true
      rw [f2, h2]; rfl
    · show max x.depth (PySem.PyData.depthAll ds) ≤ 2
      omega
theorem list_alike {ds : List D} (h : ∀ x ∈ ds, Fine x) (hl : ds.length ≤ 100000) : m_law_alike 12 [.list ds, .list ds] = .ok (.d (.bool true)) := by
  obtain ⟨h1, h2, h3⟩ := list_fine h
  refine alike_same 12 _ h1 ?_ ?_
  · show (decide (ds.length ≤ 100000) && slimAll ds) = true
    rw [h2, decide_eq_true hl]; rfl
  · show PySem.PyData.depthAll ds + 1 < 12
    omega
theorem int_alike {i : Int} : m_law_alike 12 [.int i, .int i] = .ok (.d (.bool true)) := alike_same 12 _ rfl rfl (by show 0 < 12; decide)
theorem str_alike {s : Str} (h : shapedS s) : m_law_alike 12 [.str s, .str s] = .ok (.d (.bool true)) := alike_same 12 _ (str_fine h) rfl (by show 0 < 12; decide)
/-! ### a whole text -/
def Lof (Ls : List Str) : List Str := if joinN Ls = T "" then [] else Ls
def resC (r : Nat ⊕ List D) : Cell := match r with
  | .inl j => .d (.int (j : Int))
  | .inr ds => .own ds
def resD (r : Nat ⊕ List D) : D := match r with
  | .inl j => .int (j : Int)
  | .inr ds => .list ds
def parsed (Ls : List Str) : Nat ⊕ List D := goAll (Lof Ls) (Lof Ls).length 0 []
theorem sh_empty : shapedS (T "") := by unfold shapedS; decide +kernel
section
variable {Ls : List Str} (hL : ∀ s ∈ Ls, s ∈ LINES) (hl : Ls.length ≤ 1000)
include hL hl
theorem line_row : ∀ p ∈ Ls, p.length ≤ 60 ∧ 10 ∉ p.cps.toList ∧ shapedS p := fun p hp => by
  have := lines_plain p (hL p hp)
  unfold plain at this
  simp only [Bool.and_eq_true, decide_eq_true_eq] at this
  exact ⟨this.1.2, this.1.1, this.2⟩
theorem text_shaped : shapedS (joinN Ls) := join_shaped fun p hp => (line_row hL hl p hp).2.2
theorem text_len : (joinN Ls).length ≤ 61000 := by
  have := join_len fun p hp => (line_row hL hl p hp).1
  omega
theorem Lof_in : (∀ s ∈ Lof Ls, s ∈ LINES) ∧ (Lof Ls).length ≤ 1000 := by
  unfold Lof
  split
  · exact ⟨fun s h => (by cases h), by decide⟩
  · exact ⟨hL, hl⟩
theorem parsed_ok : m_law_parsed [.str (joinN Ls)] = .ok (resC (parsed Ls)) := by
  have mk : ∀ s : String, Str.ofString s = T s := fun _ => rfl
  have ts := text_shaped hL hl
  have tn := str_shaped_ne ts sh_empty
  obtain ⟨h1, h2⟩ := Lof_in hL hl
  have l0 : lstR (.ok []) = .ok (.own []) := lstR_ok (by decide)
  have run := prog_loop h1 h2 (x0 := .d (.str (joinN Ls))) (Lof Ls).length 0 1000000 [] (.own (txs (Lof Ls))) .un (by omega) (by omega) (by simp; omega) (.inl rfl)
  have hp : m_parse_log [.str (joinN Ls)] = match parsed Ls with | .inr ds => .ok (.own ds) | .inl j => .ex (Str.ofString "BadLog") [(Str.ofString "line", .int (j : Int))] := by
    unfold m_parse_log runD g_parse_log parsed
    have fin : ∀ o : R Cell, o = .ok (.own (txs (Lof Ls))) → endD ((o.into [.d (.str (joinN Ls)), .un, .un, .un, .un] (setR 1 [.d (.str (joinN Ls)), .un, .un, .un, .un])).andThen fun en => (((lstR (R.ok [])).into en (setR 2 en)).andThen fun en => (((cstD (.int 0) en).into en (setR 3 en)).andThen fun en => ((whileD l0_parse_log l1_parse_log 1000000 en).andThen fun en => ((getC 2 en).into en .rt))))) = match goAll (Lof Ls) (Lof Ls).length 0 [] with | .inr ds => .ok (.own ds) | .inl j => .ex (Str.ofString "BadLog") [(Str.ofString "line", .int (j : Int))] := fun o ho => by
      subst ho
      rw [show ((0 : Nat) : Int) = 0 from rfl] at run
      cases q : goAll (Lof Ls) (Lof Ls).length 0 [] with
      | inl j =>
        rw [q] at run
        obtain ⟨e, hr⟩ := run
        simp -implicitDefEqProofs [setR, l0, hr]
      | inr ds =>
        rw [q] at run
        obtain ⟨lc', y3, y4, hr⟩ := run
        simp -implicitDefEqProofs [setR, l0, hr]
    by_cases z : joinN Ls = T ""
    · rw [decide_eq_true z] at tn
      have e : Lof Ls = [] := if_pos z
      refine fin _ ?_
      rw [e]
      simp -implicitDefEqProofs [startD, mk, tn, l0]
      rfl
    · rw [decide_eq_false z] at tn
      have e : Lof Ls = Ls := if_neg z
      have hne : Ls ≠ [] := fun h => z (by rw [h]; rfl)
      have sp : splitD (.d (.str (joinN Ls))) (.d (.str (T "\n"))) = .ok (.own (txs Ls)) := by
        rw [splitD_str (by decide) (by have := text_len hL hl; omega), split_joinN hne fun p hp => (line_row hL hl p hp).2.1]
        rfl
      refine fin _ ?_
      rw [e]
      simp -implicitDefEqProofs [startD, mk, tn, sp]
  unfold m_law_parsed runD g_law_parsed
  simp -implicitDefEqProofs [startD, hp]
  cases parsed Ls with
  | inl j => simp -implicitDefEqProofs [tryF, resC]
  | inr ds => simp -implicitDefEqProofs [tryF, resC]
theorem due_ok : m_law_due [.str (joinN Ls)] = .ok (resC (parsed Ls)) := by
  have mk : ∀ s : String, Str.ofString s = T s := fun _ => rfl
  have ts := text_shaped hL hl
  have tn := str_shaped ts sh_empty
  obtain ⟨h1, h2⟩ := Lof_in hL hl
  have l0 : lstR (.ok []) = .ok (.own []) := lstR_ok (by decide)
  have run := due_loop h1 h2 (x0 := .d (.str (joinN Ls))) (Lof Ls).length 0 1000000 [] (.own (txs (Lof Ls))) .un .un (by omega) (by omega) (by simp; omega) (.inl rfl)
  rw [show ((0 : Nat) : Int) = 0 from rfl] at run
  have sp0 : splitD (.d (.str (joinN Ls))) (.d (.str (T "\n"))) = .ok (.own (txs (PySem.Txt.split (joinN Ls) (T "\n")))) := splitD_str (by decide) (by have := text_len hL hl; omega)
  unfold m_law_due runD g_law_due parsed
  by_cases z : joinN Ls = T ""
  · rw [decide_eq_true z] at tn
    have e : Lof Ls = [] := if_pos z
    rw [e] at run ⊢
    have run : match goAll ([] : List Str) ([] : List Str).length 0 [] with | .inr ds => ∃ lc' y3 y4 y5, whileD l0_law_due l1_law_due 1000000 [.d (.str (joinN Ls)), .own [], .own [], .d (.int 0), .un, .un] = .nx [.d (.str (joinN Ls)), lc', .own ds, y3, y4, y5] | .inl j => whileD l0_law_due l1_law_due 1000000 [.d (.str (joinN Ls)), .own [], .own [], .d (.int 0), .un, .un] = .rt (.d (.int (j : Int))) := run
    obtain ⟨lc', y3, y4, y5, hr⟩ := run
    simp -implicitDefEqProofs [startD, mk, sp0, setR, tn, l0, hr, resC]
    rfl
  · rw [decide_eq_false z] at tn
    have e : Lof Ls = Ls := if_neg z
    have hne : Ls ≠ [] := fun h => z (by rw [h]; rfl)
    rw [split_joinN hne fun p hp => (line_row hL hl p hp).2.1] at sp0
    rw [e] at run ⊢
    cases q : goAll Ls Ls.length 0 [] with
    | inl j =>
      rw [q] at run
      simp -implicitDefEqProofs [startD, mk, sp0, setR, tn, l0, run, resC]
    | inr ds =>
      rw [q] at run
      obtain ⟨lc', y3, y4, y5, hr⟩ := run
      simp -implicitDefEqProofs [startD, mk, sp0, setR, tn, l0, hr, resC]
theorem res_alike : m_law_alike 12 [resD (parsed Ls), resD (parsed Ls)] = .ok (.d (.bool true)) := by
  obtain ⟨h1, h2⟩ := Lof_in hL hl
  unfold parsed
  cases q : goAll (Lof Ls) (Lof Ls).length 0 [] with
  | inl j => exact int_alike
  | inr ds =>
    obtain ⟨f1, f2⟩ := goAll_fine h1 _ _ _ _ (fun x hx => by cases hx) q
    exact list_alike f1 (by simp at f2; omega)
end
end K94
namespace K94
open PySem (Str)
open DL L2
/-! ### what is printed is read back -/
def round (d : Nat × Nat × Nat) : Bool := match linesOf d with
  | [] => false
  | s0 :: R => match d with
    | (0, a, b) => decide (clsAt s0 = (4, names.getD a (T ""), [], R.length)) && R.all (fun r => decide (hd r = T "|")) && decide (joinN (R.map tl) = texts.getD b (T "")) && decide (s0.cps.toList ≠ [])
    | (1, a, _) => decide (clsAt s0 = (2, names.getD a (T ""), [], 0)) && decide (R = []) && decide (s0.cps.toList ≠ [])
    | (3, a, r) => decide (clsAt s0 = (3, names.getD a (T ""), RD.getD r [], 0)) && decide (R = []) && decide (s0.cps.toList ≠ [])
    | _ => decide (clsAt s0 = (1, T "", [], 0)) && decide (R = []) && decide (s0.cps.toList ≠ [])
theorem round_all : ∀ d ∈ DEEDS, round d = true := by decide +kernel
theorem rows_all : ∀ (R rest : List Str) (k : Nat), (∀ r ∈ R, hd r = T "|") → rowsAt (R ++ rest) k R.length = .inr (R.map tl)
  | [], rest, k, _ => by cases rest <;> rfl
  | r :: R, rest, k, h => by
    show rowsAt (r :: (R ++ rest)) k (R.length + 1) = _
    unfold rowsAt
    rw [if_pos (h r List.mem_cons_self), rows_all R rest (k + 1) fun x hx => h x (List.mem_cons_of_mem _ hx)]
    rfl
theorem round_step {d : Nat × Nat × Nat} (h : d ∈ DEEDS) : ∃ s0 R, linesOf d = s0 :: R ∧ s0.cps.toList ≠ [] ∧ adv (clsAt s0) = 1 + R.length ∧ ∀ (L rest : List Str) (k : Nat), L.drop (k + 1) = R ++ rest → runC (clsAt s0) L k = .inr (dd d) := by
  have hr := round_all d h
  unfold round at hr
  split at hr
  · cases hr
  · rename_i s0 R e
    refine ⟨s0, R, e, ?_⟩
    split at hr
    · rename_i a b
      simp only [Bool.and_eq_true, decide_eq_true_eq] at hr
      obtain ⟨⟨⟨h1, h2⟩, h3⟩, h4⟩ := hr
      refine ⟨h4, by rw [h1]; rfl, fun L rest k hd' => ?_⟩
      rw [h1]
      show (match rowsAt (L.drop (k + 1)) (k + 1) R.length with | .inl j => Sum.inl j | .inr rs => .inr (PySem.PyData.tuple [.str (T "put"), .str (names.getD a (T "")), .str (PySem.Txt.join (T "\n") rs)])) = _
      rw [hd', rows_all R rest (k + 1) fun r hr => of_decide_eq_true (List.all_eq_true.mp h2 r hr)]
      show Sum.inr (PySem.PyData.tuple [.str (T "put"), .str (names.getD a (T "")), .str (joinN (R.map tl))]) = _
      rw [h3]
      rfl
    · rename_i a x
      simp only [Bool.and_eq_true, decide_eq_true_eq] at hr
      obtain ⟨⟨h1, h2⟩, h4⟩ := hr
      refine ⟨h4, by rw [h1, h2]; rfl, fun L rest k _ => by rw [h1]; rfl⟩
    · rename_i a r
      simp only [Bool.and_eq_true, decide_eq_true_eq] at hr
      obtain ⟨⟨h1, h2⟩, h4⟩ := hr
      refine ⟨h4, by rw [h1, h2]; rfl, fun L rest k _ => by rw [h1]; rfl⟩
    · rename_i n1 n2 n3
      simp only [Bool.and_eq_true, decide_eq_true_eq] at hr
      obtain ⟨⟨h1, h2⟩, h4⟩ := hr
      refine ⟨h4, by rw [h1, h2]; rfl, fun L rest k _ => ?_⟩
      rw [h1]
      show Sum.inr (PySem.PyData.tuple [.str (T "back")]) = _
      congr 1
      unfold dd
      split
      · rename_i e; exact absurd rfl (n1 _ _)
      · rename_i e; exact absurd rfl (n2 _ _)
      · rename_i e; exact absurd rfl (n3 _ _)
      · rfl
def flat (ds : List (Nat × Nat × Nat)) : List Str := ds.flatMap linesOf
theorem goAll_round {L : List Str} : ∀ (ds : List (Nat × Nat × Nat)) (d k : Nat) (acc : List D), (∀ x ∈ ds, x ∈ DEEDS) → L.drop k = flat ds → L.length - k ≤ d → goAll L d k acc = .inr (acc ++ ds.map dd)
  | [], d, k, acc, _, h, hd => by
    have hk : L.length ≤ k := List.drop_eq_nil_iff.mp h
    rw [List.map_nil, List.append_nil]
    cases d with
    | zero => rfl
    | succ d =>
      show (match L[k]? with | none => _ | some s => _) = _
      rw [List.getElem?_eq_none hk]
  | d0 :: ds, d, k, acc, hD, h, hd => by
    obtain ⟨s0, R, e, _, ha, hs⟩ := round_step (hD d0 List.mem_cons_self)
    have hf : flat (d0 :: ds) = s0 :: (R ++ flat ds) := by
      show linesOf d0 ++ flat ds = _
      rw [e]; rfl
    rw [hf] at h
    have hk : k < L.length := by
      by_cases z : k < L.length
      · exact z
      · rw [List.drop_of_length_le (by omega)] at h
        cases h
    rw [List.drop_eq_getElem_cons hk] at h
    have h0 : L[k] = s0 := (List.cons.inj h).1
    have h1 : L.drop (k + 1) = R ++ flat ds := (List.cons.inj h).2
    cases d with
    | zero => omega
    | succ d =>
      show (match L[k]? with | none => _ | some s => match runC (clsAt s) L k with | .inl j => Sum.inl j | .inr x => goAll L d (k + adv (clsAt s)) (acc ++ [x])) = _
      rw [List.getElem?_eq_getElem hk, h0]
      dsimp only
      rw [hs L (flat ds) k h1]
      dsimp only
      rw [ha]
      have h2 : L.drop (k + (1 + R.length)) = flat ds := by
        rw [show k + (1 + R.length) = (k + 1) + R.length by omega, ← List.drop_drop, h1, List.drop_left]
      rw [goAll_round ds d (k + (1 + R.length)) (acc ++ [dd d0]) (fun x hx => hD x (List.mem_cons_of_mem _ hx)) h2 (by omega), List.append_assoc]
      rfl
theorem joinL_ne {p : List Nat} (h : p ≠ []) : ∀ r : List (List Nat), TL.joinL [10] (p :: r) ≠ []
  | [] => h
  | q :: r => fun z => h (List.append_eq_nil_iff.mp (show p ++ ([10] ++ TL.joinL [10] (q :: r)) = [] from z)).1
theorem parsed_round {ds : List (Nat × Nat × Nat)} (h : ∀ x ∈ ds, x ∈ DEEDS) : parsed (flat ds) = .inr (ds.map dd) := by
  cases ds with
  | nil =>
    have e : Lof (flat []) = [] := if_pos (by decide +kernel)
    unfold parsed
    rw [e]
    rfl
  | cons d0 ds =>
    obtain ⟨s0, R, e, hne, _, _⟩ := round_step (h d0 List.mem_cons_self)
    have hf : flat (d0 :: ds) = s0 :: (R ++ flat ds) := by
      show linesOf d0 ++ flat ds = _
      rw [e]; rfl
    have hj : joinN (flat (d0 :: ds)) ≠ T "" := fun z => by
      have : (joinN (flat (d0 :: ds))).cps.toList = (T "").cps.toList := by rw [z]
      rw [join_tl, hf] at this
      exact joinL_ne hne _ (this.trans (by decide +kernel))
    have hL : Lof (flat (d0 :: ds)) = flat (d0 :: ds) := if_neg hj
    unfold parsed
    rw [hL, goAll_round (d0 :: ds) _ 0 [] h (List.drop_zero) (by omega)]
    rfl
end K94
namespace K94
open PySem (Str)
open DL L2
/-! ### the law -/
theorem flat_in {ds : List (Nat × Nat × Nat)} (h : ∀ x ∈ ds, x ∈ DEEDS) : ∀ s ∈ flat ds, s ∈ LINES := fun s hs => by
  obtain ⟨d, hd, hs⟩ := List.mem_flatMap.mp hs
  exact List.mem_append_right _ (List.mem_flatMap.mpr ⟨d, h d hd, hs⟩)
theorem flat_len : ∀ {ds : List (Nat × Nat × Nat)}, (∀ x ∈ ds, x ∈ DEEDS) → (flat ds).length ≤ 4 * ds.length
  | [], _ => Nat.zero_le _
  | d :: ds, h => by
    have h1 := (lines_some d (h d List.mem_cons_self)).2
    have h2 := flat_len fun x hx => h x (List.mem_cons_of_mem _ hx)
    show (linesOf d ++ flat ds).length ≤ _
    rw [List.length_append, List.length_cons]
    omega
theorem txs_add {us vs : List Str} (h : us.length + vs.length ≤ 16777216) : addD (.own (txs us)) (.own (txs vs)) = .ok (.own (txs (us ++ vs))) := by
  rw [addD_own (by rw [txs_len, txs_len]; exact h)]
  unfold txs
  rw [List.map_append]
theorem log_walk {x0 : Cell} : ∀ (ds : List (Nat × Nat × Nat)) (acc : List Str) (x2 : Cell), (∀ x ∈ ds, x ∈ DEEDS) → acc.length + 4 * ds.length ≤ 100000 →
    ∃ y2, forD (turnD (.nm 2) l0_print_log) (ds.map dd) [x0, .own (txs acc), x2] = .nx [x0, .own (txs (acc ++ flat ds)), y2]
  | [], acc, x2, _, _ => ⟨x2, by rw [show flat [] = [] from rfl, List.append_nil]; rfl⟩
  | d :: ds, acc, x2, h, hl => by
    have hd := h d List.mem_cons_self
    have p := strsR_is (lines_prog d hd)
    have p : m_print_deed [dd d] = .ok (.own (txs (linesOf d))) := p
    have h4 := (lines_some d hd).2
    simp only [List.length_cons] at hl
    have ad := txs_add (us := acc) (vs := linesOf d) (by omega)
    have st : turnD (.nm 2) l0_print_log (dd d) [x0, .own (txs acc), x2] = .nx [x0, .own (txs (acc ++ linesOf d)), .d (dd d)] := by
      generalize dd d = x at *
      simp -implicitDefEqProofs [l0_print_log, p, ad, setR]
    obtain ⟨y2, hy⟩ := log_walk (x0 := x0) ds (acc ++ linesOf d) (.d (dd d)) (fun x hx => h x (List.mem_cons_of_mem _ hx)) (by rw [List.length_append]; omega)
    refine ⟨y2, ?_⟩
    rw [List.map_cons, forD_nx st, hy, List.append_assoc]
    rfl
theorem join_bound {Ls : List Str} (hL : ∀ s ∈ Ls, s ∈ LINES) (hl : Ls.length ≤ 1000) : (Ls.map Str.length).sum + Ls.length * (T "\n").length ≤ 16777216 := by
  have h1 := sum_len fun p hp => (line_row hL hl p hp).1
  have h2 : (T "\n").length = 1 := by decide +kernel
  rw [h2]
  omega
theorem print_ok {ds : List (Nat × Nat × Nat)} (h : ∀ x ∈ ds, x ∈ DEEDS) (hl : ds.length ≤ 10) : m_print_log [.list (ds.map dd)] = .ok (.d (.str (joinN (flat ds)))) := by
  obtain ⟨y2, hy⟩ := log_walk (x0 := .d (.list (ds.map dd))) ds [] .un h (by simp; omega)
  have fl := flat_len h
  have jn := joinD_own (join_bound (flat_in h) (by omega))
  have jn : joinD (.d (.str (T "\n"))) (.own (txs (flat ds))) = .ok (.d (.str (joinN (flat ds)))) := jn
  have mk : ∀ s : String, Str.ofString s = T s := fun _ => rfl
  have l0 : lstR (.ok []) = .ok (.own (txs [])) := lstR_ok (by decide)
  rw [List.nil_append] at hy
  unfold m_print_log runD g_print_log
  simp -implicitDefEqProofs [startD, mk, l0, setR, hy, jn]
theorem law_walk2 {x0 x1 x4 x5 x6 x7 x8 : Cell} : ∀ (ds : List (Nat × Nat × Nat)) (acc : List Str) (x3 : Cell), (∀ x ∈ ds, x ∈ DEEDS) → acc.length + 4 * ds.length ≤ 100000 →
    ∃ y3, forD (turnD (.nm 3) l0_law) (ds.map dd) [x0, x1, .own (txs acc), x3, x4, x5, x6, x7, x8] = .nx [x0, x1, .own (txs (acc ++ flat ds)), y3, x4, x5, x6, x7, x8]
  | [], acc, x3, _, _ => ⟨x3, by rw [show flat [] = [] from rfl, List.append_nil]; rfl⟩
  | d :: ds, acc, x3, h, hl => by
    have hd := h d List.mem_cons_self
    have p := strsR_is (lines_law d hd)
    have p : m_law_deed_lines [dd d] = .ok (.own (txs (linesOf d))) := p
    have h4 := (lines_some d hd).2
    simp only [List.length_cons] at hl
    have ad := txs_add (us := acc) (vs := linesOf d) (by omega)
    have st : turnD (.nm 3) l0_law (dd d) [x0, x1, .own (txs acc), x3, x4, x5, x6, x7, x8] = .nx [x0, x1, .own (txs (acc ++ linesOf d)), .d (dd d), x4, x5, x6, x7, x8] := by
      generalize dd d = x at *
      simp -implicitDefEqProofs [l0_law, p, ad, setR]
    obtain ⟨y3, hy⟩ := law_walk2 (x0 := x0) (x1 := x1) (x4 := x4) (x5 := x5) (x6 := x6) (x7 := x7) (x8 := x8) ds (acc ++ linesOf d) (.d (dd d)) (fun x hx => h x (List.mem_cons_of_mem _ hx)) (by rw [List.length_append]; omega)
    refine ⟨y3, ?_⟩
    rw [List.map_cons, forD_nx st, hy, List.append_assoc]
    rfl
def P1 : List Str := [T "put a 1", T "|const a = 1;", T "|", T "put b 2", T "drop a", T "back", T "read a 1 -2 lost", T "read a", T "read  a 1", T "drop", T "put a 0", T "put a"]
def P2 : List Str := [T "read a x", T "read b -", T "back ", T " back", T "", T "drop a b", T "put c 123456789012345678901", T "drop \t", T "read a 1 ", T "keep a", T "read a 007 -0", T "put a 01"]
theorem pool_is : P1 ++ P2 = POOL := by decide +kernel
theorem lst1 : lstR (.ok [PySem.PyData.str (T "put a 1"), .str (T "|const a = 1;"), .str (T "|"), .str (T "put b 2"), .str (T "drop a"), .str (T "back"), .str (T "read a 1 -2 lost"), .str (T "read a"), .str (T "read  a 1"), .str (T "drop"), .str (T "put a 0"), .str (T "put a")]) = .ok (.own (txs P1)) := lstR_ok (by decide)
theorem lst2 : lstR (.ok [PySem.PyData.str (T "read a x"), .str (T "read b -"), .str (T "back "), .str (T " back"), .str (T ""), .str (T "drop a b"), .str (T "put c 123456789012345678901"), .str (T "drop \t"), .str (T "read a 1 "), .str (T "keep a"), .str (T "read a 007 -0"), .str (T "put a 01")]) = .ok (.own (txs P2)) := lstR_ok (by decide)
theorem res_asD (r : Nat ⊕ List D) : asD (resC r) = .ok (resD r) := by cases r <;> rfl
theorem consR_res (r : Nat ⊕ List D) (q : R (List D)) : consR (.ok (resC r)) q = q.bind fun ds => .ok (resD r :: ds) := by
  unfold consR
  rw [R.bind_ok, res_asD, R.bind_ok]
end K94
namespace K94
open PySem (Str)
open DL L2
theorem law_true (ns : List Int) (h : ns.length ≤ 63) : m_law [.list (ns.map PySem.PyData.int)] = .ok (.d (.bool true)) := by
  have mk : ∀ s : String, Str.ofString s = T s := fun _ => rfl
  -- the deeds
  obtain ⟨d0, hd0, hb0⟩ := draw_any ns 0 [7] (by decide) (by decide) (by decide) (by intro s hs; rw [List.mem_singleton.mp hs]; decide)
  obtain ⟨n, hn, ln⟩ := below_get hb0 (i := 0) (s := 7) rfl
  have i0 : idxD (.own (d0.map PySem.PyData.int)) (.d (.int 0)) = .ok (.d (.int (n : Int))) := draw_get (i := 0) hn
  have l7 : lstR (.ok [PySem.PyData.int 7]) = .ok (.own [.int 7]) := lstR_ok (by decide)
  have r1 : rng1D (.d (.int (n : Int))) = .ok (upFrom 0 n) := rng1_nat (by omega)
  obtain ⟨ds, hl, hD, hlc⟩ := lcL_some (em := dd) (P := fun d => d ∈ DEEDS) (vs := [8]) (i := 8) (f := fun en => ((consR (varD 0 en) (consR ((cstD (.int 1) en).bind fun x => (getC 8 en).bind fun y => addD x y) (R.ok []))).bind m_law_some_deed)) (xs := upFrom 0 n)
    (e := [.d (.list (ns.map PySem.PyData.int)), .un, .un, .un, .un, .un, .un, .un, .un]) (by rw [up_len]; omega) (fun x hx => by
      obtain ⟨i, hi⟩ := List.getElem?_of_mem hx
      obtain ⟨li, rfl⟩ := upz_get hi
      obtain ⟨d, hd, e⟩ := some_deed_ok ns (1 + (i : Int)) (by omega) (by omega)
      refine ⟨d, hd, ?_⟩
      simp -implicitDefEqProofs [e])
  rw [up_len] at hl
  have hlen : ds.length ≤ 6 := by omega
  have fl := flat_len hD
  have fin := flat_in hD
  -- the lines, the text
  have l0 : lstR (.ok []) = .ok (.own (txs [])) := lstR_ok (by decide)
  have jn := joinD_own (join_bound fin (by omega))
  have jn : joinD (.d (.str (T "\n"))) (.own (txs (flat ds))) = .ok (.d (.str (joinN (flat ds)))) := jn
  have pr := print_ok hD (by omega)
  have ps := parsed_ok fin (by omega)
  rw [parsed_round hD] at ps
  have ps : m_law_parsed [.str (joinN (flat ds))] = .ok (.own (ds.map dd)) := ps
  have a1 := str_alike (text_shaped fin (by omega))
  have a2 := res_alike fin (by omega)
  rw [parsed_round hD] at a2
  have a2 : m_law_alike 12 [.list (ds.map dd), .list (ds.map dd)] = .ok (.d (.bool true)) := a2
  -- the pool, more
  have pl : addD (.own (txs P1)) (.own (txs P2)) = .ok (.own (txs POOL)) := by rw [txs_add (by decide), pool_is]
  obtain ⟨d2, hd2, hb2⟩ := draw_any ns 12 (8 :: List.replicate 7 24) (by decide) (by decide) (by decide) (by
    intro s hs
    rcases List.mem_cons.mp hs with rfl | hs
    · decide
    · rw [List.eq_of_mem_replicate hs]; decide)
  obtain ⟨m, hm, lm⟩ := below_get hb2 (i := 0) (s := 8) rfl
  have i2 : idxD (.own (d2.map PySem.PyData.int)) (.d (.int 0)) = .ok (.d (.int (m : Int))) := draw_get (i := 0) hm
  have l8 : lstR (.ok [PySem.PyData.int 8]) = .ok (.own [.int 8]) := lstR_ok (by decide)
  have l24 : lstR (.ok [PySem.PyData.int 24]) = .ok (.own [.int 24]) := lstR_ok (by decide)
  have m7 : mulD (.own [.int 24]) (.d (.int 7)) = .ok (.own (List.replicate 7 (.int 24))) := mulD_one (x := .int 24) (n := 7) (by decide)
  have ad8 : addD (.own [.int 8]) (.own (List.replicate 7 (.int 24))) = .ok (.own ((8 :: List.replicate 7 24 : List Int).map PySem.PyData.int)) := by
    rw [addD_own (by decide)]; rfl
  have r2 : rng1D (.d (.int (m : Int))) = .ok (upFrom 0 m) := rng1_nat (by omega)
  have i3 : ∀ v : Nat, v < 24 → ∃ s, s ∈ LINES ∧ idxD (.own (txs POOL)) (.d (.int (v : Int))) = .ok (.d (.str s)) := fun v hv => by
    have hv' : v < POOL.length := hv
    refine ⟨POOL[v], List.mem_append_left _ (List.getElem_mem hv'), idx_own ?_⟩
    unfold txs
    rw [List.getElem?_map, List.getElem?_eq_getElem hv']
    rfl
  have more := fun (x1 x2 x3 x4 x7 : Cell) => lcL_some (em := PySem.PyData.str) (P := fun s => s ∈ LINES) (vs := [8]) (i := 8) (f := fun en => (((getC 5 en).bind fun x => ((getC 6 en).bind fun x => ((cstD (.int 1) en).bind fun x => (getC 8 en).bind fun y => addD x y).bind fun y => idxD x y).bind fun y => idxD x y).bind Cell.val)) (xs := upFrom 0 m)
    (e := [.d (.list (ns.map PySem.PyData.int)), x1, x2, x3, x4, .own (txs POOL), .own (d2.map PySem.PyData.int), x7, .un]) (by rw [up_len]; omega) (fun x hx => by
      obtain ⟨i, hi⟩ := List.getElem?_of_mem hx
      obtain ⟨li, rfl⟩ := upz_get hi
      obtain ⟨v, hv, lv⟩ := below_get hb2 (i := i + 1) (s := 24) (by rw [List.getElem?_cons_succ, List.getElem?_replicate, if_pos (by omega)])
      obtain ⟨s, hs, e⟩ := i3 v (by omega)
      refine ⟨s, hs, ?_⟩
      have g := draw_get hv
      rw [show ((i + 1 : Nat) : Int) = 1 + (i : Int) by omega] at g
      simp -implicitDefEqProofs [g, e])
  obtain ⟨y3, hw⟩ := law_walk2 (x0 := .d (.list (ns.map PySem.PyData.int))) (x1 := .d (.list (ds.map dd))) (x4 := .un) (x5 := .un) (x6 := .un) (x7 := .un) (x8 := .un) ds [] .un hD (by simp; omega)
  rw [List.nil_append] at hw
  obtain ⟨ms, hml, hmL, hmc⟩ := more (.d (.list (ds.map dd))) (.own (txs (flat ds))) y3 (.d (.str (joinN (flat ds)))) .un
  rw [up_len] at hml
  -- the last question
  have last : ∀ Ls : List Str, (∀ s ∈ Ls, s ∈ LINES) → Ls.length ≤ 500 → joinD (.d (.str (T "\n"))) (.own (txs Ls)) = .ok (.d (.str (joinN Ls))) ∧ m_law_parsed [.str (joinN Ls)] = .ok (resC (parsed Ls)) ∧ m_law_due [.str (joinN Ls)] = .ok (resC (parsed Ls)) ∧ m_law_alike 12 [resD (parsed Ls), resD (parsed Ls)] = .ok (.d (.bool true)) := fun Ls hL hl =>
    ⟨joinD_own (join_bound hL (by omega)), parsed_ok hL (by omega), due_ok hL (by omega), res_alike hL (by omega)⟩
  have m3 := modD_int (i := (ns.length : Int)) (j := 3) (by decide)
  have e3 := int_eqD (i := (ns.length : Int) % 3) (j := 1)
  have cut1 : sliceA (.own (txs ms)) none (some 1) = .ok (.own (txs (ms.take 1))) := by
    rw [sliceA_own]
    have := cut_to (txs ms) 1
    rw [show ((1 : Nat) : Int) = 1 from rfl] at this
    rw [this]
    unfold txs
    rw [List.map_take]
  have ad3 := txs_add (us := flat ds) (vs := ms.take 1) (by rw [List.length_take]; omega)
  have hmc' : lcL (lcD [8] (.nm 8) (fun _ => R.ok true) (fun en => (((getC 5 en).bind fun x => ((getC 6 en).bind fun x => ((cstD (.int 1) en).bind fun x => (getC 8 en).bind fun y => addD x y).bind fun y => idxD x y).bind fun y => idxD x y).bind Cell.val)) (upFrom 0 m) [.d (.list (ns.map PySem.PyData.int)), .d (.list (ds.map dd)), .own (txs (flat ds)), y3, .d (.str (joinN (flat ds))), .own (txs POOL), .own (d2.map PySem.PyData.int), .un, .un]) = .ok (.own (txs ms)) := hmc
  have q1 := lst1
  have q2 := lst2
  have cr := consR_res
  have nl : lenD (.d (.list (ns.map PySem.PyData.int))) = .ok (.d (.int (ns.length : Int))) := by rw [len_list, List.length_map]
  unfold m_law runD g_law
  generalize ns.map PySem.PyData.int = NS at *
  generalize (8 :: List.replicate 7 24 : List Int).map PySem.PyData.int = SZ at *
  generalize List.replicate 7 (PySem.PyData.int 24) = RP at *
  simp -implicitDefEqProofs at hlc hmc' hd0
  generalize hF : txs (flat ds) = FL at *
  generalize hPO : txs POOL = PO at *
  generalize hP1 : txs P1 = PA at *
  generalize hP2 : txs P2 = PB at *
  by_cases z : (ns.length : Int) % 3 = 1
  · obtain ⟨b1, b2, b3, b4⟩ := last (flat ds ++ ms.take 1) (fun s hs => by
      rcases List.mem_append.mp hs with hs | hs
      · exact fin s hs
      · exact hmL s (List.mem_of_mem_take hs)) (by rw [List.length_append, List.length_take]; omega)
    rw [decide_eq_true z] at e3
    simp -implicitDefEqProofs [-len_list, startD, mk, l7, hd0, i0, r1, hlc, setR, l0, hw, jn, pr, ps, a1, a2, q1, q2, pl, l8, l24, m7, ad8, hd2, i2, r2, hmc', nl, m3, e3, cut1, ad3, b1, b2, b3, b4, cr]
  · obtain ⟨b1, b2, b3, b4⟩ := last ms hmL (by omega)
    rw [decide_eq_false z] at e3
    simp -implicitDefEqProofs [-len_list, startD, mk, l7, hd0, i0, r1, hlc, setR, l0, hw, jn, pr, ps, a1, a2, q1, q2, pl, l8, l24, m7, ad8, hd2, i2, r2, hmc', nl, m3, e3, cut1, ad3, b1, b2, b3, b4, cr]
end K94
namespace K94
open PySem PySem.Spec PyProof.Rows L2 DL
def topS (i : Nat) : Stmt := PySem.Challenge.pw_wardenworks_k94_texts_of_logbooks.main.body.getD i (.Pass ⟨0, 0, 0, 0⟩)
/-- a def of the text -/
structure Df (K : PySem.W.Frag) (mg : Str → Option Value) (x : Str) (i : Nat) (ps : List Str) where
  f : Addr
  fd : FuncData
  F : Fun K x x (topS i) f fd
  g : mg x = some (.ref f)
  b : Binds K fd ps []
/-- what the top has left of the built-ins -/
structure Txt (K : PySem.W.Frag) (mg : Str → Option Value) : Prop where
  n_bool : mg "bool" = none
  n_int : mg "int" = none
  n_isinstance : mg "isinstance" = none
  n_len : mg "len" = none
  n_list : mg "list" = none
  n_min : mg "min" = none
  n_range : mg "range" = none
  n_str : mg "str" = none
  n_tuple : mg "tuple" = none
  x_BadLog : Exc1 K mg "BadLog" "line" (inClass (topS 2) 0)
structure All (K : PySem.W.Frag) (mg : Str → Option Value) where
  d_print_item : Df K mg "print_item" 6 ["item"]
  d_print_deed : Df K mg "print_deed" 7 ["deed"]
  d_print_log : Df K mg "print_log" 8 ["deeds"]
  d_law_cell : Df K mg "_law_cell" 16 ["script", "k"]
  d_law_draw : Df K mg "_law_draw" 17 ["script", "k", "sizes"]
  d_law_some_deed : Df K mg "_law_some_deed" 18 ["script", "k"]
  d_law_deed_lines : Df K mg "_law_deed_lines" 19 ["deed"]
  d_law_alike : Df K mg "_law_alike" 20 ["actual", "expected"]
  d_law_digits : Df K mg "_law_digits" 21 ["word"]
  d_law_items : Df K mg "_law_items" 22 ["words"]
  d_law_label : Df K mg "_law_label" 23 ["words"]
  d_law_line : Df K mg "_law_line" 24 ["lines", "at"]
  d_law_due : Df K mg "_law_due" 25 ["text"]
  d_digits_of : Df K mg "digits_of" 4 ["text"]
  d_parse_item : Df K mg "parse_item" 9 ["text"]
  d_parse_reading : Df K mg "parse_reading" 10 ["words"]
  d_is_label : Df K mg "is_label" 11 ["text"]
  d_parse_put : Df K mg "parse_put" 12 ["lines", "at", "words"]
  d_parse_line : Df K mg "parse_line" 13 ["lines", "at"]
  d_parse_log : Df K mg "parse_log" 14 ["text"]
  d_law_parsed : Df K mg "_law_parsed" 26 ["text"]
  d_law : Df K mg "law" 27 ["script"]
section
variable {P : Program} {w : World} {K : PySem.W.Frag} {mg : Str → Option Value} {base : Heap}
theorem sc_print_item : FnScope ["item"] ["item"] (defScope (topS 6)) := ⟨rfl, rfl, rfl, by decide +kernel, rfl, by decide +kernel, by decide +kernel⟩
theorem ok_print_item (T : Txt K mg) (D : All K mg) : FnOk P w K mg base (L2.CX P w) 1 D.d_print_item.f D.d_print_item.fd ["item"] (spD K mg 1 m_print_item) := fnD (k := 0) (N := ["item"]) (ps := ["item"]) (gb := g_print_item) D.d_print_item.F sc_print_item fun cdv A outer s H E hr => by
  have sc := sc_print_item
  have tk : Takes (cxOf (L2.CX P w) P w K mg base ["item"] "print_item" (defScope (topS 6)) D.d_print_item.f cdv A outer s H E) (fun cls d _ H => E cls d H) := takes_of rfl rfl rfl rfl
  have PO : PassesOwn (model P w) (cxOf (L2.CX P w) P w K mg base ["item"] "print_item" (defScope (topS 6)) D.d_print_item.f cdv A outer s H E).A (cxOf (L2.CX P w) P w K mg base ["item"] "print_item" (defScope (topS 6)) D.d_print_item.f cdv A outer s H E).env (cxOf (L2.CX P w) P w K mg base ["item"] "print_item" (defScope (topS 6)) D.d_print_item.f cdv A outer s H E).xe := passes_of rfl
  exact (ds_cons (ds_if (dt_isN (dp_var 0)) (ds_one (ds_ret de_str)) ds_nil) (ds_one (ds_ret (de_strT T.n_str (dp_var 0)))))
theorem sc_print_deed : FnScope ["deed", "rows", "row", "item"] ["deed"] (defScope (topS 7)) := ⟨rfl, rfl, rfl, by decide +kernel, rfl, by decide +kernel, by decide +kernel⟩
theorem ok_print_deed (T : Txt K mg) (D : All K mg) : FnOk P w K mg base (L2.CX P w) 2 D.d_print_deed.f D.d_print_deed.fd ["deed"] (spD K mg 1 m_print_deed) := fnD (k := 1) (N := ["deed", "rows", "row", "item"]) (ps := ["deed"]) (gb := g_print_deed) D.d_print_deed.F sc_print_deed fun cdv A outer s H E hr => by
  have sc := sc_print_deed
  have tk : Takes (cxOf (L2.CX P w) P w K mg base ["deed", "rows", "row", "item"] "print_deed" (defScope (topS 7)) D.d_print_deed.f cdv A outer s H E) (fun cls d _ H => E cls d H) := takes_of rfl rfl rfl rfl
  have PO : PassesOwn (model P w) (cxOf (L2.CX P w) P w K mg base ["deed", "rows", "row", "item"] "print_deed" (defScope (topS 7)) D.d_print_deed.f cdv A outer s H E).A (cxOf (L2.CX P w) P w K mg base ["deed", "rows", "row", "item"] "print_deed" (defScope (topS 7)) D.d_print_deed.f cdv A outer s H E).env (cxOf (L2.CX P w) P w K mg base ["deed", "rows", "row", "item"] "print_deed" (defScope (topS 7)) D.d_print_deed.f cdv A outer s H E).xe := passes_of rfl
  exact (ds_cons (ds_if (dt_cmp (op_eqD hr.units) op2_eq (dp_ix (dp_var 0) (dp_of de_int)) (dp_of de_str) (nomark _)) (ds_cons (ds_set (i := 1) sc.nd (de_sm1 (pe_bm PySem.F.plainAttrs_str PySem.F.slot_str_split PySem.F.type_str_split mt_split (dp_ix (dp_var 0) (dp_of de_int)) (pa_cons (dp_of de_str) pa_nil)) op2_split)) (ds_one (ds_ret (de_op opr_add op2_add (dp_of (de_lst (da_cons (de_op opr_add op2_add (dp_of (de_op opr_add op2_add (dp_of (de_op opr_add op2_add (dp_of de_str) (dp_ix (dp_var 0) (dp_of de_int)))) (dp_of de_str))) (dp_of (de_strT T.n_str (dp_of (de_len T.n_len (dp_var 1)))))) da_nil))) (dp_of (de_lc (T := (.nm 2)) rfl sc.nd (di_any (dp_var 1)) (blkOk_by (own := [(PySem.Str.ofString "row", 2)]) (by show blkC ["deed", "rows", "row", "item"] (defScope (topS 7)) _ _ = true; decide +kernel)) (fun s H C cl fp => (pg_name (i := 2) sc.nd rfl (by first | exact .inl rfl | exact .inr rfl))) (fun s H C cl fp => dts_nil) (fun s H C cl fp => (de_op opr_add op2_add (dp_of de_str) (dp_var 2))))))))) ds_nil) (ds_cons (ds_if (dt_cmp (op_eqD hr.units) op2_eq (dp_ix (dp_var 0) (dp_of de_int)) (dp_of de_str) (nomark _)) (ds_one (ds_ret (de_lst (da_cons (de_op opr_add op2_add (dp_of de_str) (dp_ix (dp_var 0) (dp_of de_int))) da_nil)))) ds_nil) (ds_cons (ds_if (dt_cmp (op_eqD hr.units) op2_eq (dp_ix (dp_var 0) (dp_of de_int)) (dp_of de_str) (nomark _)) (ds_one (ds_ret (de_lst (da_cons (de_sm1 (pe_bm PySem.F.plainAttrs_str PySem.F.slot_str_join PySem.F.type_str_join mt_join (dp_of de_str) (pa_cons (dp_of (de_op opr_add op2_add (dp_of (de_lst (da_cons de_str (da_cons (de_of (dp_ix (dp_var 0) (dp_of de_int))) da_nil)))) (dp_of (de_lc (T := (.nm 3)) rfl sc.nd (di_any (dp_ix (dp_var 0) (dp_of de_int))) (blkOk_by (own := [(PySem.Str.ofString "item", 3)]) (by show blkC ["deed", "rows", "row", "item"] (defScope (topS 7)) _ _ = true; decide +kernel)) (fun s H C cl fp => (pg_name (i := 3) sc.nd rfl (by first | exact .inl rfl | exact .inr rfl))) (fun s H C cl fp => dts_nil) (fun s H C cl fp => (de_call (ok_print_item T D) (hr.mono (by decide)) takes0 D.d_print_item.g D.d_print_item.F.kp D.d_print_item.b (da_cons (de_var 3) da_nil) (hn := runD_no))))))) pa_nil)) op2_join) da_nil)))) ds_nil) (ds_one (ds_ret (de_lst (da_cons de_str da_nil)))))))
theorem sc_print_log : FnScope ["deeds", "lines", "deed"] ["deeds"] (defScope (topS 8)) := ⟨rfl, rfl, rfl, by decide +kernel, rfl, by decide +kernel, by decide +kernel⟩
theorem ok_print_log (T : Txt K mg) (D : All K mg) : FnOk P w K mg base (L2.CX P w) 3 D.d_print_log.f D.d_print_log.fd ["deeds"] (spD K mg 1 m_print_log) := fnD (k := 2) (N := ["deeds", "lines", "deed"]) (ps := ["deeds"]) (gb := g_print_log) D.d_print_log.F sc_print_log fun cdv A outer s H E hr => by
  have sc := sc_print_log
  have tk : Takes (cxOf (L2.CX P w) P w K mg base ["deeds", "lines", "deed"] "print_log" (defScope (topS 8)) D.d_print_log.f cdv A outer s H E) (fun cls d _ H => E cls d H) := takes_of rfl rfl rfl rfl
  have PO : PassesOwn (model P w) (cxOf (L2.CX P w) P w K mg base ["deeds", "lines", "deed"] "print_log" (defScope (topS 8)) D.d_print_log.f cdv A outer s H E).A (cxOf (L2.CX P w) P w K mg base ["deeds", "lines", "deed"] "print_log" (defScope (topS 8)) D.d_print_log.f cdv A outer s H E).env (cxOf (L2.CX P w) P w K mg base ["deeds", "lines", "deed"] "print_log" (defScope (topS 8)) D.d_print_log.f cdv A outer s H E).xe := passes_of rfl
  exact (ds_cons (ds_set (i := 1) sc.nd (de_lst da_nil)) (ds_cons (ds_for (T := (.nm 2)) PO rfl (df_any (de_var 0)) (pg_name (i := 2) sc.nd rfl (by first | exact .inl rfl | exact .inr rfl)) (ds_one (ds_set (i := 1) sc.nd (de_op opr_add op2_add (dp_var 1) (dp_of (de_call (ok_print_deed T D) (hr.mono (by decide)) tk D.d_print_deed.g D.d_print_deed.F.kp D.d_print_deed.b (da_cons (de_var 2) da_nil) (hn := runD_no))))))) (ds_one (ds_ret (de_sm1 (pe_bm PySem.F.plainAttrs_str PySem.F.slot_str_join PySem.F.type_str_join mt_join (dp_of de_str) (pa_cons (dp_var 1) pa_nil)) op2_join)))))
theorem sc_law_cell : FnScope ["script", "k"] ["script", "k"] (defScope (topS 16)) := ⟨rfl, rfl, rfl, by decide +kernel, rfl, by decide +kernel, by decide +kernel⟩
theorem ok_law_cell (T : Txt K mg) (D : All K mg) : FnOk P w K mg base (L2.CX P w) 1 D.d_law_cell.f D.d_law_cell.fd ["script", "k"] (spD K mg 2 m_law_cell) := fnD (k := 0) (N := ["script", "k"]) (ps := ["script", "k"]) (gb := g_law_cell) D.d_law_cell.F sc_law_cell fun cdv A outer s H E hr => by
  have sc := sc_law_cell
  have tk : Takes (cxOf (L2.CX P w) P w K mg base ["script", "k"] "_law_cell" (defScope (topS 16)) D.d_law_cell.f cdv A outer s H E) (fun cls d _ H => E cls d H) := takes_of rfl rfl rfl rfl
  have PO : PassesOwn (model P w) (cxOf (L2.CX P w) P w K mg base ["script", "k"] "_law_cell" (defScope (topS 16)) D.d_law_cell.f cdv A outer s H E).A (cxOf (L2.CX P w) P w K mg base ["script", "k"] "_law_cell" (defScope (topS 16)) D.d_law_cell.f cdv A outer s H E).env (cxOf (L2.CX P w) P w K mg base ["script", "k"] "_law_cell" (defScope (topS 16)) D.d_law_cell.f cdv A outer s H E).xe := passes_of rfl
  exact (ds_cons (ds_if (dt_cmp op_lt op2_intB (dp_var 1) (dp_of (de_len T.n_len (dp_var 0))) (nomark _)) (ds_one (ds_ret (de_of (dp_ix (dp_var 0) (dp_var 1))))) ds_nil) (ds_one (ds_ret de_int)))
theorem sc_law_draw : FnScope ["script", "k", "sizes", "cell", "drawn", "mixed", "j", "size"] ["script", "k", "sizes"] (defScope (topS 17)) := ⟨rfl, rfl, rfl, by decide +kernel, rfl, by decide +kernel, by decide +kernel⟩
theorem ok_law_draw (T : Txt K mg) (D : All K mg) : FnOk P w K mg base (L2.CX P w) 2 D.d_law_draw.f D.d_law_draw.fd ["script", "k", "sizes"] (spD K mg 3 m_law_draw) := fnD (k := 1) (N := ["script", "k", "sizes", "cell", "drawn", "mixed", "j", "size"]) (ps := ["script", "k", "sizes"]) (gb := g_law_draw) D.d_law_draw.F sc_law_draw fun cdv A outer s H E hr => by
  have sc := sc_law_draw
  have tk : Takes (cxOf (L2.CX P w) P w K mg base ["script", "k", "sizes", "cell", "drawn", "mixed", "j", "size"] "_law_draw" (defScope (topS 17)) D.d_law_draw.f cdv A outer s H E) (fun cls d _ H => E cls d H) := takes_of rfl rfl rfl rfl
  have PO : PassesOwn (model P w) (cxOf (L2.CX P w) P w K mg base ["script", "k", "sizes", "cell", "drawn", "mixed", "j", "size"] "_law_draw" (defScope (topS 17)) D.d_law_draw.f cdv A outer s H E).A (cxOf (L2.CX P w) P w K mg base ["script", "k", "sizes", "cell", "drawn", "mixed", "j", "size"] "_law_draw" (defScope (topS 17)) D.d_law_draw.f cdv A outer s H E).env (cxOf (L2.CX P w) P w K mg base ["script", "k", "sizes", "cell", "drawn", "mixed", "j", "size"] "_law_draw" (defScope (topS 17)) D.d_law_draw.f cdv A outer s H E).xe := passes_of rfl
  exact (ds_cons (ds_set (i := 3) sc.nd (de_call (ok_law_cell T D) (hr.mono (by decide)) tk D.d_law_cell.g D.d_law_cell.F.kp D.d_law_cell.b (da_cons (de_var 0) (da_cons (de_var 1) da_nil)) (hn := runD_no))) (ds_cons (ds_if (dt_cmp op_lt op2_intB (dp_var 3) (dp_of de_int) (nomark _)) (ds_one (ds_set (i := 3) sc.nd (de_un un_neg op1_neg (dp_var 3)))) ds_nil) (ds_cons (ds_set (i := 4) sc.nd (de_lst da_nil)) (ds_cons (ds_if (dt_cmp op_ge op2_intB (dp_var 3) (dp_of (de_op op_pow op2_pow (dp_of de_int) (dp_of de_int))) (nomark _)) (ds_cons (ds_set (i := 3) sc.nd (de_op op_sub (op2_intI fun _ _ => rfl) (dp_var 3) (dp_of (de_op op_pow op2_pow (dp_of de_int) (dp_of de_int))))) (ds_cons (ds_for (T := (.nm 7)) PO rfl (df_any (de_var 2)) (pg_name (i := 7) sc.nd rfl (by first | exact .inl rfl | exact .inr rfl)) (ds_cons (ds_app 4 (pe_bm PySem.F.plainAttrs_list PySem.F.slot_list_append PySem.F.type_list_append mt_append (pv 4) (pa_cons (de_op op_mod op2_mod (dp_var 3) (dp_var 7)) pa_nil))) (ds_one (ds_set (i := 3) sc.nd (de_op op_fdiv op2_div (dp_var 3) (dp_var 7)))))) (ds_one (ds_retV 4)))) ds_nil) (ds_cons (ds_set (i := 5) sc.nd (de_op op_mod op2_mod (dp_of (de_op opr_add op2_add (dp_of (de_op opr_add op2_add (dp_var 3) (dp_of de_int))) (dp_of (de_op opr_mul op2_mul (dp_of de_int) (dp_var 1))))) (dp_of de_int))) (ds_cons (ds_for (T := (.nm 6)) PO rfl (df_rng1 T.n_range (de_len T.n_len (dp_var 2))) (pg_name (i := 6) sc.nd rfl (by first | exact .inl rfl | exact .inr rfl)) (ds_cons (ds_set (i := 5) sc.nd (de_op op_mod op2_mod (dp_of (de_op opr_add op2_add (dp_of (de_op opr_add op2_add (dp_of (de_op opr_mul op2_mul (dp_var 5) (dp_of de_int))) (dp_of de_int))) (dp_var 6))) (dp_of de_int))) (ds_cons (ds_set (i := 5) sc.nd (de_op op_mod op2_mod (dp_of (de_op opr_add op2_add (dp_of (de_op opr_mul op2_mul (dp_var 5) (dp_of de_int))) (dp_of de_int))) (dp_of de_int))) (ds_one (ds_app 4 (pe_bm PySem.F.plainAttrs_list PySem.F.slot_list_append PySem.F.type_list_append mt_append (pv 4) (pa_cons (de_op op_mod op2_mod (dp_of (de_op op_fdiv op2_div (dp_var 5) (dp_of de_int))) (dp_ix (dp_var 2) (dp_var 6))) pa_nil))))))) (ds_one (ds_retV 4))))))))
theorem sc_law_some_deed : FnScope ["script", "k", "digits", "name"] ["script", "k"] (defScope (topS 18)) := ⟨rfl, rfl, rfl, by decide +kernel, rfl, by decide +kernel, by decide +kernel⟩
theorem ok_law_some_deed (T : Txt K mg) (D : All K mg) : FnOk P w K mg base (L2.CX P w) 3 D.d_law_some_deed.f D.d_law_some_deed.fd ["script", "k"] (spD K mg 2 m_law_some_deed) := fnD (k := 2) (N := ["script", "k", "digits", "name"]) (ps := ["script", "k"]) (gb := g_law_some_deed) D.d_law_some_deed.F sc_law_some_deed fun cdv A outer s H E hr => by
  have sc := sc_law_some_deed
  have tk : Takes (cxOf (L2.CX P w) P w K mg base ["script", "k", "digits", "name"] "_law_some_deed" (defScope (topS 18)) D.d_law_some_deed.f cdv A outer s H E) (fun cls d _ H => E cls d H) := takes_of rfl rfl rfl rfl
  have PO : PassesOwn (model P w) (cxOf (L2.CX P w) P w K mg base ["script", "k", "digits", "name"] "_law_some_deed" (defScope (topS 18)) D.d_law_some_deed.f cdv A outer s H E).A (cxOf (L2.CX P w) P w K mg base ["script", "k", "digits", "name"] "_law_some_deed" (defScope (topS 18)) D.d_law_some_deed.f cdv A outer s H E).env (cxOf (L2.CX P w) P w K mg base ["script", "k", "digits", "name"] "_law_some_deed" (defScope (topS 18)) D.d_law_some_deed.f cdv A outer s H E).xe := passes_of rfl
  exact (ds_cons (ds_set (i := 2) sc.nd (de_call (ok_law_draw T D) (hr.mono (by decide)) tk D.d_law_draw.g D.d_law_draw.F.kp D.d_law_draw.b (da_cons (de_var 0) (da_cons (de_var 1) (da_cons (de_lst (da_cons de_int (da_cons de_int (da_cons de_int (da_cons de_int (da_cons de_int (da_cons de_int da_nil))))))) da_nil))) (hn := runD_no))) (ds_cons (ds_set (i := 3) sc.nd (de_of (dp_ix (dp_of (de_lst (da_cons de_str (da_cons de_str (da_cons de_str (da_cons de_str da_nil)))))) (dp_ix (dp_var 2) (dp_of de_int))))) (ds_cons (ds_if (dt_cmp (op_eqD hr.units) op2_eq (dp_ix (dp_var 2) (dp_of de_int)) (dp_of de_int) (nomark _)) (ds_one (ds_ret (de_tup (da_cons de_str (da_cons (de_var 3) (da_cons (de_of (dp_ix (dp_of (de_lst (da_cons de_str (da_cons de_str (da_cons de_str (da_cons de_str da_nil)))))) (dp_ix (dp_var 2) (dp_of de_int)))) da_nil)))))) ds_nil) (ds_cons (ds_if (dt_cmp (op_eqD hr.units) op2_eq (dp_ix (dp_var 2) (dp_of de_int)) (dp_of de_int) (nomark _)) (ds_one (ds_ret (de_tup (da_cons de_str (da_cons (de_var 3) da_nil))))) ds_nil) (ds_cons (ds_if (dt_cmp (op_eqD hr.units) op2_eq (dp_ix (dp_var 2) (dp_of de_int)) (dp_of de_int) (nomark _)) (ds_one (ds_ret (de_tup (da_cons de_str da_nil)))) ds_nil) (ds_one (ds_ret (de_tup (da_cons de_str (da_cons (de_var 3) (da_cons (de_of (dp_ix (dp_of (de_tup (da_cons (de_tup da_nil) (da_cons (de_tup (da_cons (de_op op_sub (op2_intI fun _ _ => rfl) (dp_ix (dp_var 2) (dp_of de_int)) (dp_of de_int)) da_nil)) (da_cons (de_tup (da_cons de_non (da_cons (de_op opr_mul op2_mul (dp_ix (dp_var 2) (dp_of de_int)) (dp_of de_int)) da_nil))) (da_cons (de_tup (da_cons de_int (da_cons de_non (da_cons (de_op op_sub (op2_intI fun _ _ => rfl) (dp_ix (dp_var 2) (dp_of de_int)) (dp_of de_int)) da_nil)))) (da_cons (de_tup (da_cons de_non da_nil)) da_nil))))))) (dp_ix (dp_var 2) (dp_of de_int)))) da_nil)))))))))))
theorem sc_law_deed_lines : FnScope ["deed", "line", "item", "rows", "row"] ["deed"] (defScope (topS 19)) := ⟨rfl, rfl, rfl, by decide +kernel, rfl, by decide +kernel, by decide +kernel⟩
theorem ok_law_deed_lines (T : Txt K mg) (D : All K mg) : FnOk P w K mg base (L2.CX P w) 1 D.d_law_deed_lines.f D.d_law_deed_lines.fd ["deed"] (spD K mg 1 m_law_deed_lines) := fnD (k := 0) (N := ["deed", "line", "item", "rows", "row"]) (ps := ["deed"]) (gb := g_law_deed_lines) D.d_law_deed_lines.F sc_law_deed_lines fun cdv A outer s H E hr => by
  have sc := sc_law_deed_lines
  have tk : Takes (cxOf (L2.CX P w) P w K mg base ["deed", "line", "item", "rows", "row"] "_law_deed_lines" (defScope (topS 19)) D.d_law_deed_lines.f cdv A outer s H E) (fun cls d _ H => E cls d H) := takes_of rfl rfl rfl rfl
  have PO : PassesOwn (model P w) (cxOf (L2.CX P w) P w K mg base ["deed", "line", "item", "rows", "row"] "_law_deed_lines" (defScope (topS 19)) D.d_law_deed_lines.f cdv A outer s H E).A (cxOf (L2.CX P w) P w K mg base ["deed", "line", "item", "rows", "row"] "_law_deed_lines" (defScope (topS 19)) D.d_law_deed_lines.f cdv A outer s H E).env (cxOf (L2.CX P w) P w K mg base ["deed", "line", "item", "rows", "row"] "_law_deed_lines" (defScope (topS 19)) D.d_law_deed_lines.f cdv A outer s H E).xe := passes_of rfl
  exact (ds_cons (ds_if (dt_cmp (op_eqD hr.units) op2_eq (dp_ix (dp_var 0) (dp_of de_int)) (dp_of de_str) (nomark _)) (ds_one (ds_ret (de_lst (da_cons de_str da_nil)))) ds_nil) (ds_cons (ds_if (dt_cmp (op_eqD hr.units) op2_eq (dp_ix (dp_var 0) (dp_of de_int)) (dp_of de_str) (nomark _)) (ds_one (ds_ret (de_lst (da_cons (de_op opr_add op2_add (dp_of de_str) (dp_ix (dp_var 0) (dp_of de_int))) da_nil)))) ds_nil) (ds_cons (ds_if (dt_cmp (op_eqD hr.units) op2_eq (dp_ix (dp_var 0) (dp_of de_int)) (dp_of de_str) (nomark _)) (ds_cons (ds_set (i := 3) sc.nd (de_sm1 (pe_bm PySem.F.plainAttrs_str PySem.F.slot_str_split PySem.F.type_str_split mt_split (dp_ix (dp_var 0) (dp_of de_int)) (pa_cons (dp_of de_str) pa_nil)) op2_split)) (ds_one (ds_ret (de_op opr_add op2_add (dp_of (de_lst (da_cons (de_op opr_add op2_add (dp_of (de_op opr_add op2_add (dp_of (de_op opr_add op2_add (dp_of de_str) (dp_ix (dp_var 0) (dp_of de_int)))) (dp_of de_str))) (dp_of (de_strT T.n_str (dp_of (de_len T.n_len (dp_var 3)))))) da_nil))) (dp_of (de_lc (T := (.nm 4)) rfl sc.nd (di_any (dp_var 3)) (blkOk_by (own := [(PySem.Str.ofString "row", 4)]) (by show blkC ["deed", "line", "item", "rows", "row"] (defScope (topS 19)) _ _ = true; decide +kernel)) (fun s H C cl fp => (pg_name (i := 4) sc.nd rfl (by first | exact .inl rfl | exact .inr rfl))) (fun s H C cl fp => dts_nil) (fun s H C cl fp => (de_op opr_add op2_add (dp_of de_str) (dp_var 4))))))))) ds_nil) (ds_cons (ds_set (i := 1) sc.nd (de_op opr_add op2_add (dp_of de_str) (dp_ix (dp_var 0) (dp_of de_int)))) (ds_cons (ds_for (T := (.nm 2)) PO rfl (df_any (de_of (dp_ix (dp_var 0) (dp_of de_int)))) (pg_name (i := 2) sc.nd rfl (by first | exact .inl rfl | exact .inr rfl)) (ds_one (ds_if (dt_isN (dp_var 2)) (ds_one (ds_set (i := 1) sc.nd (de_op opr_add op2_add (dp_var 1) (dp_of de_str)))) (ds_one (ds_set (i := 1) sc.nd (de_op opr_add op2_add (dp_of (de_op opr_add op2_add (dp_var 1) (dp_of de_str))) (dp_of (de_strT T.n_str (dp_var 2))))))))) (ds_one (ds_ret (de_lst (da_cons (de_var 1) da_nil)))))))))
theorem sc_law_alike : FnScope ["actual", "expected", "k"] ["actual", "expected"] (defScope (topS 20)) := ⟨rfl, rfl, rfl, by decide +kernel, rfl, by decide +kernel, by decide +kernel⟩
theorem ok_law_alike (T : Txt K mg) (D : All K mg) : ∀ n : Nat, FnOk P w K mg base (L2.CX P w) (1 + n) D.d_law_alike.f D.d_law_alike.fd ["actual", "expected"] (spD K mg 2 (m_law_alike n))
  | 0 => ⟨fun vs H Q E ⟨_, _, _, _, _, h⟩ => h.elim, fun _ _ _ _ _ _ _ _ _ _ _ _ _ ⟨_, _, _, _, _, h⟩ => h.elim⟩
  | n + 1 => fnD D.d_law_alike.F sc_law_alike fun cdv A outer s H E hr => by
    have RF := ok_law_alike T D n
    have RN := mn_law_alike n
    have sc := sc_law_alike
    have tk : Takes (cxOf (L2.CX P w) P w K mg base ["actual", "expected", "k"] "_law_alike" (defScope (topS 20)) D.d_law_alike.f cdv A outer s H E) (fun cls d _ H => E cls d H) := takes_of rfl rfl rfl rfl
    have PO : PassesOwn (model P w) (cxOf (L2.CX P w) P w K mg base ["actual", "expected", "k"] "_law_alike" (defScope (topS 20)) D.d_law_alike.f cdv A outer s H E).A (cxOf (L2.CX P w) P w K mg base ["actual", "expected", "k"] "_law_alike" (defScope (topS 20)) D.d_law_alike.f cdv A outer s H E).env (cxOf (L2.CX P w) P w K mg base ["actual", "expected", "k"] "_law_alike" (defScope (topS 20)) D.d_law_alike.f cdv A outer s H E).xe := passes_of rfl
    exact (ds_cons (ds_if (dt_isN (dp_var 1)) (ds_one (ds_ret (de_isN (dp_var 0)))) ds_nil) (ds_cons (ds_if (dt_val (de_isi (.inl rfl) T.n_isinstance T.n_bool (by decide +kernel) (dp_var 1))) (ds_one (ds_ret (de_and (de_isi (.inl rfl) T.n_isinstance T.n_bool (by decide +kernel) (dp_var 0)) (de_one (de_cmp (op_eqD hr.units) op2_eq (dp_var 0) (dp_var 1) (nomark _)))))) ds_nil) (ds_cons (ds_if (dt_val (de_isi (.inr (.inl rfl)) T.n_isinstance T.n_int (by decide +kernel) (dp_var 1))) (ds_one (ds_ret (de_and (de_isi (.inr (.inl rfl)) T.n_isinstance T.n_int (by decide +kernel) (dp_var 0)) (de_and (de_not (de_isi (.inl rfl) T.n_isinstance T.n_bool (by decide +kernel) (dp_var 0))) (de_one (de_cmp (op_eqD hr.units) op2_eq (dp_var 0) (dp_var 1) (nomark _))))))) ds_nil) (ds_cons (ds_if (dt_val (de_isi (.inr (.inr (.inl rfl))) T.n_isinstance T.n_str (by decide +kernel) (dp_var 1))) (ds_one (ds_ret (de_and (de_isi (.inr (.inr (.inl rfl))) T.n_isinstance T.n_str (by decide +kernel) (dp_var 0)) (de_one (de_cmp (op_eqD hr.units) op2_eq (dp_var 0) (dp_var 1) (nomark _)))))) ds_nil) (ds_cons (ds_if (PW.pt (dw_and (dt_val (de_isi (.inr (.inr (.inr (.inr rfl)))) T.n_isinstance T.n_tuple (by decide +kernel) (dp_var 1))) (dw_and1 (dt_not (dt_val (de_isi (.inr (.inr (.inr (.inr rfl)))) T.n_isinstance T.n_tuple (by decide +kernel) (dp_var 0))))))) (ds_one (ds_ret de_bl)) ds_nil) (ds_cons (ds_if (PW.pt (dw_and (dt_val (de_isi (.inr (.inr (.inr (.inl rfl)))) T.n_isinstance T.n_list (by decide +kernel) (dp_var 1))) (dw_and1 (dt_not (dt_val (de_isi (.inr (.inr (.inr (.inl rfl)))) T.n_isinstance T.n_list (by decide +kernel) (dp_var 0))))))) (ds_one (ds_ret de_bl)) ds_nil) (ds_cons (ds_if (dt_cmp (op_neD hr.units) op2_ne (dp_of (de_len T.n_len (dp_var 0))) (dp_of (de_len T.n_len (dp_var 1))) (nomark _)) (ds_one (ds_ret de_bl)) ds_nil) (ds_cons (ds_for (T := (.nm 2)) PO rfl (df_rng1 T.n_range (de_len T.n_len (dp_var 1))) (pg_name (i := 2) sc.nd rfl (by first | exact .inl rfl | exact .inr rfl)) (ds_one (ds_if (dt_not (dt_val (de_call RF (hr.mono (Nat.le_refl _)) tk D.d_law_alike.g D.d_law_alike.F.kp D.d_law_alike.b (da_cons (de_of (dp_ix (dp_var 0) (dp_var 2))) (da_cons (de_of (dp_ix (dp_var 1) (dp_var 2))) da_nil)) (hn := RN)))) (ds_one (ds_ret de_bl)) ds_nil))) (ds_one (ds_ret de_bl))))))))))
theorem sc_law_digits : FnScope ["word", "sign"] ["word"] (defScope (topS 21)) := ⟨rfl, rfl, rfl, by decide +kernel, rfl, by decide +kernel, by decide +kernel⟩
theorem ok_law_digits (T : Txt K mg) (D : All K mg) : FnOk P w K mg base (L2.CX P w) 1 D.d_law_digits.f D.d_law_digits.fd ["word"] (spD K mg 1 m_law_digits) := fnD (k := 0) (N := ["word", "sign"]) (ps := ["word"]) (gb := g_law_digits) D.d_law_digits.F sc_law_digits fun cdv A outer s H E hr => by
  have sc := sc_law_digits
  have tk : Takes (cxOf (L2.CX P w) P w K mg base ["word", "sign"] "_law_digits" (defScope (topS 21)) D.d_law_digits.f cdv A outer s H E) (fun cls d _ H => E cls d H) := takes_of rfl rfl rfl rfl
  have PO : PassesOwn (model P w) (cxOf (L2.CX P w) P w K mg base ["word", "sign"] "_law_digits" (defScope (topS 21)) D.d_law_digits.f cdv A outer s H E).A (cxOf (L2.CX P w) P w K mg base ["word", "sign"] "_law_digits" (defScope (topS 21)) D.d_law_digits.f cdv A outer s H E).env (cxOf (L2.CX P w) P w K mg base ["word", "sign"] "_law_digits" (defScope (topS 21)) D.d_law_digits.f cdv A outer s H E).xe := passes_of rfl
  exact (ds_one (ds_ret (de_and (de_cmp op_lt op2_intB (dp_of de_int) (dp_of (de_len T.n_len (dp_var 0))) (nomark _)) (de_and (de_cmp op_lt op2_intB (dp_of (de_len T.n_len (dp_var 0))) (dp_of de_int) (nomark _)) (de_one (de_cmp (op_eqD hr.units) op2_eq (dp_of (de_len T.n_len (dp_of (de_lc (T := (.nm 1)) rfl sc.nd (di_any (dp_var 0)) (blkOk_by (own := [(PySem.Str.ofString "sign", 1)]) (by show blkC ["word", "sign"] (defScope (topS 21)) _ _ = true; decide +kernel)) (fun s H C cl fp => (pg_name (i := 1) sc.nd rfl (by first | exact .inl rfl | exact .inr rfl))) (fun s H C cl fp => (dts_one (dt_cmp (opr_notIn (units65 hr)) op2_notIn (dp_var 1) (dp_of de_str) (by with_unfolding_all rfl)))) (fun s H C cl fp => (de_var 1)))))) (dp_of de_int) (nomark _)))))))
theorem sc_law_items : FnScope ["words", "found", "word"] ["words"] (defScope (topS 22)) := ⟨rfl, rfl, rfl, by decide +kernel, rfl, by decide +kernel, by decide +kernel⟩
theorem ok_law_items (T : Txt K mg) (D : All K mg) : FnOk P w K mg base (L2.CX P w) 2 D.d_law_items.f D.d_law_items.fd ["words"] (spD K mg 1 m_law_items) := fnD (k := 1) (N := ["words", "found", "word"]) (ps := ["words"]) (gb := g_law_items) D.d_law_items.F sc_law_items fun cdv A outer s H E hr => by
  have sc := sc_law_items
  have tk : Takes (cxOf (L2.CX P w) P w K mg base ["words", "found", "word"] "_law_items" (defScope (topS 22)) D.d_law_items.f cdv A outer s H E) (fun cls d _ H => E cls d H) := takes_of rfl rfl rfl rfl
  have PO : PassesOwn (model P w) (cxOf (L2.CX P w) P w K mg base ["words", "found", "word"] "_law_items" (defScope (topS 22)) D.d_law_items.f cdv A outer s H E).A (cxOf (L2.CX P w) P w K mg base ["words", "found", "word"] "_law_items" (defScope (topS 22)) D.d_law_items.f cdv A outer s H E).env (cxOf (L2.CX P w) P w K mg base ["words", "found", "word"] "_law_items" (defScope (topS 22)) D.d_law_items.f cdv A outer s H E).xe := passes_of rfl
  exact (ds_cons (ds_set (i := 1) sc.nd (de_lst da_nil)) (ds_cons (ds_for (T := (.nm 2)) PO rfl (df_any (de_var 0)) (pg_name (i := 2) sc.nd rfl (by first | exact .inl rfl | exact .inr rfl)) (ds_one (ds_if (dt_cmp (op_eqD hr.units) op2_eq (dp_var 2) (dp_of de_str) (nomark _)) (ds_one (ds_app 1 (pe_bm PySem.F.plainAttrs_list PySem.F.slot_list_append PySem.F.type_list_append mt_append (pv 1) (pa_cons de_non pa_nil)))) (ds_one (ds_if (PW.pt (dw_and (dt_cmp (op_eqD hr.units) op2_eq (dp_of (de_sliceA (dp_var 2) dpo_none (dpo_some de_int))) (dp_of de_str) (nomark _)) (dw_and1 (dt_val (de_call (ok_law_digits T D) (hr.mono (by decide)) tk D.d_law_digits.g D.d_law_digits.F.kp D.d_law_digits.b (da_cons (de_sliceA (dp_var 2) (dpo_some de_int) dpo_none) da_nil) (hn := runD_no)))))) (ds_one (ds_app 1 (pe_bm PySem.F.plainAttrs_list PySem.F.slot_list_append PySem.F.type_list_append mt_append (pv 1) (pa_cons (de_op op_sub (op2_intI fun _ _ => rfl) (dp_of de_int) (dp_of (de_intT T.n_int (dp_of (de_sliceA (dp_var 2) (dpo_some de_int) dpo_none))))) pa_nil)))) (ds_one (ds_if (dt_val (de_call (ok_law_digits T D) (hr.mono (by decide)) tk D.d_law_digits.g D.d_law_digits.F.kp D.d_law_digits.b (da_cons (de_var 2) da_nil) (hn := runD_no))) (ds_one (ds_app 1 (pe_bm PySem.F.plainAttrs_list PySem.F.slot_list_append PySem.F.type_list_append mt_append (pv 1) (pa_cons (de_intT T.n_int (dp_var 2)) pa_nil)))) (ds_one (ds_ret de_non))))))))) (ds_one (ds_ret (de_tuple T.n_tuple (dp_var 1))))))
theorem sc_law_label : FnScope ["words"] ["words"] (defScope (topS 23)) := ⟨rfl, rfl, rfl, by decide +kernel, rfl, by decide +kernel, by decide +kernel⟩
theorem ok_law_label (T : Txt K mg) (D : All K mg) : FnOk P w K mg base (L2.CX P w) 1 D.d_law_label.f D.d_law_label.fd ["words"] (spD K mg 1 m_law_label) := fnD (k := 0) (N := ["words"]) (ps := ["words"]) (gb := g_law_label) D.d_law_label.F sc_law_label fun cdv A outer s H E hr => by
  have sc := sc_law_label
  have tk : Takes (cxOf (L2.CX P w) P w K mg base ["words"] "_law_label" (defScope (topS 23)) D.d_law_label.f cdv A outer s H E) (fun cls d _ H => E cls d H) := takes_of rfl rfl rfl rfl
  have PO : PassesOwn (model P w) (cxOf (L2.CX P w) P w K mg base ["words"] "_law_label" (defScope (topS 23)) D.d_law_label.f cdv A outer s H E).A (cxOf (L2.CX P w) P w K mg base ["words"] "_law_label" (defScope (topS 23)) D.d_law_label.f cdv A outer s H E).env (cxOf (L2.CX P w) P w K mg base ["words"] "_law_label" (defScope (topS 23)) D.d_law_label.f cdv A outer s H E).xe := passes_of rfl
  exact (ds_one (ds_ret (de_and (de_cmp op_gt op2_intB (dp_of (de_len T.n_len (dp_var 0))) (dp_of de_int) (nomark _)) (de_and (de_cmp (op_neD hr.units) op2_ne (dp_ix (dp_var 0) (dp_of de_int)) (dp_of de_str) (nomark _)) (de_one (de_cmp (opr_notIn (units65 hr)) op2_notIn (dp_of de_str) (dp_ix (dp_var 0) (dp_of de_int)) (by with_unfolding_all rfl)))))))
theorem sc_law_line : FnScope ["lines", "at", "words", "many", "k", "items", "line"] ["lines", "at"] (defScope (topS 24)) := ⟨rfl, rfl, rfl, by decide +kernel, rfl, by decide +kernel, by decide +kernel⟩
theorem ok_law_line (T : Txt K mg) (D : All K mg) : FnOk P w K mg base (L2.CX P w) 3 D.d_law_line.f D.d_law_line.fd ["lines", "at"] (spD K mg 2 m_law_line) := fnD (k := 2) (N := ["lines", "at", "words", "many", "k", "items", "line"]) (ps := ["lines", "at"]) (gb := g_law_line) D.d_law_line.F sc_law_line fun cdv A outer s H E hr => by
  have sc := sc_law_line
  have tk : Takes (cxOf (L2.CX P w) P w K mg base ["lines", "at", "words", "many", "k", "items", "line"] "_law_line" (defScope (topS 24)) D.d_law_line.f cdv A outer s H E) (fun cls d _ H => E cls d H) := takes_of rfl rfl rfl rfl
  have PO : PassesOwn (model P w) (cxOf (L2.CX P w) P w K mg base ["lines", "at", "words", "many", "k", "items", "line"] "_law_line" (defScope (topS 24)) D.d_law_line.f cdv A outer s H E).A (cxOf (L2.CX P w) P w K mg base ["lines", "at", "words", "many", "k", "items", "line"] "_law_line" (defScope (topS 24)) D.d_law_line.f cdv A outer s H E).env (cxOf (L2.CX P w) P w K mg base ["lines", "at", "words", "many", "k", "items", "line"] "_law_line" (defScope (topS 24)) D.d_law_line.f cdv A outer s H E).xe := passes_of rfl
  exact (ds_cons (ds_set (i := 2) sc.nd (de_sm1 (pe_bm PySem.F.plainAttrs_str PySem.F.slot_str_split PySem.F.type_str_split mt_split (dp_ix (dp_var 0) (dp_var 1)) (pa_cons (dp_of de_str) pa_nil)) op2_split)) (ds_cons (ds_if (dt_cmp (op_eqD hr.units) op2_eq (dp_var 2) (dp_of (de_lst (da_cons de_str da_nil))) (nomark _)) (ds_one (ds_ret (de_tup (da_cons de_str da_nil)))) ds_nil) (ds_cons (ds_frz [2] (ds_if (dt_not (dt_val (de_call (ok_law_label T D) (hr.mono (by decide)) tk D.d_law_label.g D.d_law_label.F.kp D.d_law_label.b (da_cons (de_var 2) da_nil) (hn := runD_no)))) (ds_one (ds_ret (de_op opr_add op2_add (dp_var 1) (dp_of de_int)))) ds_nil)) (ds_cons (ds_if (PW.pt (dw_and (dt_cmp (op_eqD hr.units) op2_eq (dp_ix (dp_var 2) (dp_of de_int)) (dp_of de_str) (nomark _)) (dw_and1 (dt_cmp (op_eqD hr.units) op2_eq (dp_of (de_len T.n_len (dp_var 2))) (dp_of de_int) (nomark _))))) (ds_one (ds_ret (de_tup (da_cons de_str (da_cons (de_of (dp_ix (dp_var 2) (dp_of de_int))) da_nil))))) ds_nil) (ds_cons (ds_if (dt_cmp (op_eqD hr.units) op2_eq (dp_ix (dp_var 2) (dp_of de_int)) (dp_of de_str) (nomark _)) (ds_cons (ds_set (i := 5) sc.nd (de_call (ok_law_items T D) (hr.mono (by decide)) tk D.d_law_items.g D.d_law_items.F.kp D.d_law_items.b (da_cons (de_sliceA (dp_var 2) (dpo_some de_int) dpo_none) da_nil) (hn := runD_no))) (ds_cons (ds_if (dt_isN (dp_var 5)) (ds_one (ds_ret (de_op opr_add op2_add (dp_var 1) (dp_of de_int)))) ds_nil) (ds_one (ds_ret (de_tup (da_cons de_str (da_cons (de_of (dp_ix (dp_var 2) (dp_of de_int))) (da_cons (de_var 5) da_nil)))))))) ds_nil) (ds_cons (ds_if (PW.pt (dw_or (dt_cmp (op_neD hr.units) op2_ne (dp_ix (dp_var 2) (dp_of de_int)) (dp_of de_str) (nomark _)) (dw_or (dt_cmp (op_neD hr.units) op2_ne (dp_of (de_len T.n_len (dp_var 2))) (dp_of de_int) (nomark _)) (dw_or (dt_not (dt_val (de_call (ok_law_digits T D) (hr.mono (by decide)) tk D.d_law_digits.g D.d_law_digits.F.kp D.d_law_digits.b (da_cons (de_of (dp_ix (dp_var 2) (dp_of de_int))) da_nil) (hn := runD_no)))) (dw_or1 (dt_cmp (op_eqD hr.units) op2_eq (dp_of (de_intT T.n_int (dp_ix (dp_var 2) (dp_of de_int)))) (dp_of de_int) (nomark _))))))) (ds_one (ds_ret (de_op opr_add op2_add (dp_var 1) (dp_of de_int)))) ds_nil) (ds_cons (ds_set (i := 3) sc.nd (de_intT T.n_int (dp_ix (dp_var 2) (dp_of de_int)))) (ds_cons (ds_for (T := (.nm 4)) PO rfl (df_rng2 T.n_range (de_op opr_add op2_add (dp_var 1) (dp_of de_int)) (de_op opr_add op2_add (dp_of (de_min rfl T.n_min (dp_of (de_op opr_add op2_add (dp_var 1) (dp_var 3))) (dp_of (de_len T.n_len (dp_var 0))))) (dp_of de_int))) (pg_name (i := 4) sc.nd rfl (by first | exact .inl rfl | exact .inr rfl)) (ds_one (ds_if (PW.pt (dw_or (dt_cmp op_ge op2_intB (dp_var 4) (dp_of (de_len T.n_len (dp_var 0))) (nomark _)) (dw_or1 (dt_cmp (op_neD hr.units) op2_ne (dp_of (de_sliceA (dp_ix (dp_var 0) (dp_var 4)) dpo_none (dpo_some de_int))) (dp_of de_str) (nomark _))))) (ds_one (ds_ret (de_op opr_add op2_add (dp_var 4) (dp_of de_int)))) ds_nil))) (ds_one (ds_ret (de_tup (da_cons de_str (da_cons (de_of (dp_ix (dp_var 2) (dp_of de_int))) (da_cons (de_sm1 (pe_bm PySem.F.plainAttrs_str PySem.F.slot_str_join PySem.F.type_str_join mt_join (dp_of de_str) (pa_cons (dp_of (de_lc (T := (.nm 6)) rfl sc.nd (di_any (dp_of (de_sliceA (dp_var 0) (dpo_some (de_op opr_add op2_add (dp_var 1) (dp_of de_int))) (dpo_some (de_op opr_add op2_add (dp_of (de_op opr_add op2_add (dp_var 1) (dp_of de_int))) (dp_var 3)))))) (blkOk_by (own := [(PySem.Str.ofString "line", 6)]) (by show blkC ["lines", "at", "words", "many", "k", "items", "line"] (defScope (topS 24)) _ _ = true; decide +kernel)) (fun s H C cl fp => (pg_name (i := 6) sc.nd rfl (by first | exact .inl rfl | exact .inr rfl))) (fun s H C cl fp => dts_nil) (fun s H C cl fp => (de_sliceA (dp_var 6) (dpo_some de_int) dpo_none)))) pa_nil)) op2_join) da_nil))))))))))))))
theorem sc_law_due : FnScope ["text", "lines", "deeds", "at", "deed", "sign"] ["text"] (defScope (topS 25)) := ⟨rfl, rfl, rfl, by decide +kernel, rfl, by decide +kernel, by decide +kernel⟩
theorem ok_law_due (T : Txt K mg) (D : All K mg) : FnOk P w K mg base (L2.CX P w) 4 D.d_law_due.f D.d_law_due.fd ["text"] (spD K mg 1 m_law_due) := fnD (k := 3) (N := ["text", "lines", "deeds", "at", "deed", "sign"]) (ps := ["text"]) (gb := g_law_due) D.d_law_due.F sc_law_due fun cdv A outer s H E hr => by
  have sc := sc_law_due
  have tk : Takes (cxOf (L2.CX P w) P w K mg base ["text", "lines", "deeds", "at", "deed", "sign"] "_law_due" (defScope (topS 25)) D.d_law_due.f cdv A outer s H E) (fun cls d _ H => E cls d H) := takes_of rfl rfl rfl rfl
  have PO : PassesOwn (model P w) (cxOf (L2.CX P w) P w K mg base ["text", "lines", "deeds", "at", "deed", "sign"] "_law_due" (defScope (topS 25)) D.d_law_due.f cdv A outer s H E).A (cxOf (L2.CX P w) P w K mg base ["text", "lines", "deeds", "at", "deed", "sign"] "_law_due" (defScope (topS 25)) D.d_law_due.f cdv A outer s H E).env (cxOf (L2.CX P w) P w K mg base ["text", "lines", "deeds", "at", "deed", "sign"] "_law_due" (defScope (topS 25)) D.d_law_due.f cdv A outer s H E).xe := passes_of rfl
  exact (ds_cons (ds_set (i := 1) sc.nd (de_sm1 (pe_bm PySem.F.plainAttrs_str PySem.F.slot_str_split PySem.F.type_str_split mt_split (dp_var 0) (pa_cons (dp_of de_str) pa_nil)) op2_split)) (ds_cons (ds_if (dt_cmp (op_eqD hr.units) op2_eq (dp_var 0) (dp_of de_str) (nomark _)) (ds_one (ds_set (i := 1) sc.nd (de_lst da_nil))) ds_nil) (ds_cons (ds_set (i := 2) sc.nd (de_lst da_nil)) (ds_cons (ds_set (i := 3) sc.nd de_int) (ds_cons (ds_while 1000000 PO (dt_cmp op_lt op2_intB (dp_var 3) (dp_of (de_len T.n_len (dp_var 1))) (nomark _)) (ds_cons (ds_frz [1] (ds_set (i := 4) sc.nd (de_call (ok_law_line T D) (hr.mono (by decide)) tk D.d_law_line.g D.d_law_line.F.kp D.d_law_line.b (da_cons (de_var 1) (da_cons (de_var 3) da_nil)) (hn := runD_no)))) (ds_cons (ds_if (dt_val (de_isi (.inr (.inl rfl)) T.n_isinstance T.n_int (by decide +kernel) (dp_var 4))) (ds_one (ds_retV 4)) ds_nil) (ds_cons (ds_app 2 (pe_bm PySem.F.plainAttrs_list PySem.F.slot_list_append PySem.F.type_list_append mt_append (pv 2) (pa_cons (de_var 4) pa_nil))) (ds_cons (ds_set (i := 3) sc.nd (de_op opr_add op2_add (dp_var 3) (dp_of de_int))) (ds_one (ds_if (dt_cmp (op_eqD hr.units) op2_eq (dp_ix (dp_var 4) (dp_of de_int)) (dp_of de_str) (nomark _)) (ds_one (ds_set (i := 3) sc.nd (de_op opr_add op2_add (dp_of (de_op opr_add op2_add (dp_var 3) (dp_of de_int))) (dp_of (de_len T.n_len (dp_of (de_lc (T := (.nm 5)) rfl sc.nd (di_any (dp_ix (dp_var 4) (dp_of de_int))) (blkOk_by (own := [(PySem.Str.ofString "sign", 5)]) (by show blkC ["text", "lines", "deeds", "at", "deed", "sign"] (defScope (topS 25)) _ _ = true; decide +kernel)) (fun s H C cl fp => (pg_name (i := 5) sc.nd rfl (by first | exact .inl rfl | exact .inr rfl))) (fun s H C cl fp => (dts_one (dt_cmp (op_eqD hr.units) op2_eq (dp_var 5) (dp_of de_str) (nomark _)))) (fun s H C cl fp => (de_var 5))))))))) ds_nil))))))) (ds_one (ds_retV 2)))))))
theorem sc_digits_of : FnScope ["text", "number", "sign", "place"] ["text"] (defScope (topS 4)) := ⟨rfl, rfl, rfl, by decide +kernel, rfl, by decide +kernel, by decide +kernel⟩
theorem ok_digits_of (T : Txt K mg) (D : All K mg) : FnOk P w K mg base (L2.CX P w) 1 D.d_digits_of.f D.d_digits_of.fd ["text"] (spD K mg 1 m_digits_of) := fnD (k := 0) (N := ["text", "number", "sign", "place"]) (ps := ["text"]) (gb := g_digits_of) D.d_digits_of.F sc_digits_of fun cdv A outer s H E hr => by
  have sc := sc_digits_of
  have tk : Takes (cxOf (L2.CX P w) P w K mg base ["text", "number", "sign", "place"] "digits_of" (defScope (topS 4)) D.d_digits_of.f cdv A outer s H E) (fun cls d _ H => E cls d H) := takes_of rfl rfl rfl rfl
  have PO : PassesOwn (model P w) (cxOf (L2.CX P w) P w K mg base ["text", "number", "sign", "place"] "digits_of" (defScope (topS 4)) D.d_digits_of.f cdv A outer s H E).A (cxOf (L2.CX P w) P w K mg base ["text", "number", "sign", "place"] "digits_of" (defScope (topS 4)) D.d_digits_of.f cdv A outer s H E).env (cxOf (L2.CX P w) P w K mg base ["text", "number", "sign", "place"] "digits_of" (defScope (topS 4)) D.d_digits_of.f cdv A outer s H E).xe := passes_of rfl
  exact (ds_cons (ds_if (PW.pt (dw_or (dt_cmp op_lt op2_intB (dp_of (de_len T.n_len (dp_var 0))) (dp_of de_int) (nomark _)) (dw_or1 (dt_cmp op_gt op2_intB (dp_of (de_len T.n_len (dp_var 0))) (dp_of de_int) (nomark _))))) (ds_one (ds_ret de_non)) ds_nil) (ds_cons (ds_set (i := 1) sc.nd de_int) (ds_cons (ds_for (T := (.nm 2)) PO rfl (df_any (de_var 0)) (pg_name (i := 2) sc.nd rfl (by first | exact .inl rfl | exact .inr rfl)) (ds_cons (ds_set (i := 3) sc.nd (de_sm1 (pe_bm PySem.F.plainAttrs_str PySem.F.slot_str_find PySem.F.type_str_find mt_find (dp_of de_str) (pa_cons (dp_var 2) pa_nil)) op2_find)) (ds_cons (ds_if (dt_cmp op_lt op2_intB (dp_var 3) (dp_of de_int) (nomark _)) (ds_one (ds_ret de_non)) ds_nil) (ds_one (ds_set (i := 1) sc.nd (de_op opr_add op2_add (dp_of (de_op opr_mul op2_mul (dp_of de_int) (dp_var 1))) (dp_var 3))))))) (ds_one (ds_retV 1)))))
theorem sc_parse_item : FnScope ["text", "number"] ["text"] (defScope (topS 9)) := ⟨rfl, rfl, rfl, by decide +kernel, rfl, by decide +kernel, by decide +kernel⟩
theorem ok_parse_item (T : Txt K mg) (D : All K mg) : FnOk P w K mg base (L2.CX P w) 2 D.d_parse_item.f D.d_parse_item.fd ["text"] (spD K mg 1 m_parse_item) := fnD (k := 1) (N := ["text", "number"]) (ps := ["text"]) (gb := g_parse_item) D.d_parse_item.F sc_parse_item fun cdv A outer s H E hr => by
  have sc := sc_parse_item
  have tk : Takes (cxOf (L2.CX P w) P w K mg base ["text", "number"] "parse_item" (defScope (topS 9)) D.d_parse_item.f cdv A outer s H E) (fun cls d _ H => E cls d H) := takes_of rfl rfl rfl rfl
  have PO : PassesOwn (model P w) (cxOf (L2.CX P w) P w K mg base ["text", "number"] "parse_item" (defScope (topS 9)) D.d_parse_item.f cdv A outer s H E).A (cxOf (L2.CX P w) P w K mg base ["text", "number"] "parse_item" (defScope (topS 9)) D.d_parse_item.f cdv A outer s H E).env (cxOf (L2.CX P w) P w K mg base ["text", "number"] "parse_item" (defScope (topS 9)) D.d_parse_item.f cdv A outer s H E).xe := passes_of rfl
  exact (ds_cons (ds_if (dt_cmp (op_eqD hr.units) op2_eq (dp_var 0) (dp_of de_str) (nomark _)) (ds_one (ds_ret (de_lst (da_cons de_non da_nil)))) ds_nil) (ds_cons (ds_if (dt_cmp (op_eqD hr.units) op2_eq (dp_of (de_sliceA (dp_var 0) dpo_none (dpo_some de_int))) (dp_of de_str) (nomark _)) (ds_cons (ds_set (i := 1) sc.nd (de_call (ok_digits_of T D) (hr.mono (by decide)) tk D.d_digits_of.g D.d_digits_of.F.kp D.d_digits_of.b (da_cons (de_sliceA (dp_var 0) (dpo_some de_int) dpo_none) da_nil) (hn := runD_no))) (ds_one (ds_ret (de_if (dt_isN (dp_var 1)) (de_lst da_nil) (de_lst (da_cons (de_un un_neg op1_neg (dp_var 1)) da_nil)))))) ds_nil) (ds_cons (ds_set (i := 1) sc.nd (de_call (ok_digits_of T D) (hr.mono (by decide)) tk D.d_digits_of.g D.d_digits_of.F.kp D.d_digits_of.b (da_cons (de_var 0) da_nil) (hn := runD_no))) (ds_one (ds_ret (de_if (dt_isN (dp_var 1)) (de_lst da_nil) (de_lst (da_cons (de_var 1) da_nil))))))))
theorem sc_parse_reading : FnScope ["words", "found", "word", "item"] ["words"] (defScope (topS 10)) := ⟨rfl, rfl, rfl, by decide +kernel, rfl, by decide +kernel, by decide +kernel⟩
theorem ok_parse_reading (T : Txt K mg) (D : All K mg) : FnOk P w K mg base (L2.CX P w) 3 D.d_parse_reading.f D.d_parse_reading.fd ["words"] (spD K mg 1 m_parse_reading) := fnD (k := 2) (N := ["words", "found", "word", "item"]) (ps := ["words"]) (gb := g_parse_reading) D.d_parse_reading.F sc_parse_reading fun cdv A outer s H E hr => by
  have sc := sc_parse_reading
  have tk : Takes (cxOf (L2.CX P w) P w K mg base ["words", "found", "word", "item"] "parse_reading" (defScope (topS 10)) D.d_parse_reading.f cdv A outer s H E) (fun cls d _ H => E cls d H) := takes_of rfl rfl rfl rfl
  have PO : PassesOwn (model P w) (cxOf (L2.CX P w) P w K mg base ["words", "found", "word", "item"] "parse_reading" (defScope (topS 10)) D.d_parse_reading.f cdv A outer s H E).A (cxOf (L2.CX P w) P w K mg base ["words", "found", "word", "item"] "parse_reading" (defScope (topS 10)) D.d_parse_reading.f cdv A outer s H E).env (cxOf (L2.CX P w) P w K mg base ["words", "found", "word", "item"] "parse_reading" (defScope (topS 10)) D.d_parse_reading.f cdv A outer s H E).xe := passes_of rfl
  exact (ds_cons (ds_set (i := 1) sc.nd (de_lst da_nil)) (ds_cons (ds_for (T := (.nm 2)) PO rfl (df_any (de_var 0)) (pg_name (i := 2) sc.nd rfl (by first | exact .inl rfl | exact .inr rfl)) (ds_cons (ds_set (i := 3) sc.nd (de_call (ok_parse_item T D) (hr.mono (by decide)) tk D.d_parse_item.g D.d_parse_item.F.kp D.d_parse_item.b (da_cons (de_var 2) da_nil) (hn := runD_no))) (ds_cons (ds_if (dt_cmp (op_eqD hr.units) op2_eq (dp_of (de_len T.n_len (dp_var 3))) (dp_of de_int) (nomark _)) (ds_one (ds_ret de_non)) ds_nil) (ds_one (ds_app 1 (pe_bm PySem.F.plainAttrs_list PySem.F.slot_list_append PySem.F.type_list_append mt_append (pv 1) (pa_cons (de_of (dp_ix (dp_var 3) (dp_of de_int))) pa_nil))))))) (ds_one (ds_ret (de_tuple T.n_tuple (dp_var 1))))))
theorem sc_is_label : FnScope ["text"] ["text"] (defScope (topS 11)) := ⟨rfl, rfl, rfl, by decide +kernel, rfl, by decide +kernel, by decide +kernel⟩
theorem ok_is_label (T : Txt K mg) (D : All K mg) : FnOk P w K mg base (L2.CX P w) 1 D.d_is_label.f D.d_is_label.fd ["text"] (spD K mg 1 m_is_label) := fnD (k := 0) (N := ["text"]) (ps := ["text"]) (gb := g_is_label) D.d_is_label.F sc_is_label fun cdv A outer s H E hr => by
  have sc := sc_is_label
  have tk : Takes (cxOf (L2.CX P w) P w K mg base ["text"] "is_label" (defScope (topS 11)) D.d_is_label.f cdv A outer s H E) (fun cls d _ H => E cls d H) := takes_of rfl rfl rfl rfl
  have PO : PassesOwn (model P w) (cxOf (L2.CX P w) P w K mg base ["text"] "is_label" (defScope (topS 11)) D.d_is_label.f cdv A outer s H E).A (cxOf (L2.CX P w) P w K mg base ["text"] "is_label" (defScope (topS 11)) D.d_is_label.f cdv A outer s H E).env (cxOf (L2.CX P w) P w K mg base ["text"] "is_label" (defScope (topS 11)) D.d_is_label.f cdv A outer s H E).xe := passes_of rfl
  exact (ds_one (ds_ret (de_and (de_cmp (op_neD hr.units) op2_ne (dp_var 0) (dp_of de_str) (nomark _)) (de_and (de_cmp (op_eqD hr.units) op2_eq (dp_of (de_sm0 (pe_bm0 PySem.F.plainAttrs_str PySem.F.slot_str_strip PySem.F.type_str_strip mt_strip (dp_var 0)) op1_strip)) (dp_var 0) (nomark _)) (de_and (de_cmp (opr_notIn (units65 hr)) op2_notIn (dp_of de_str) (dp_var 0) (by with_unfolding_all rfl)) (de_and (de_cmp (opr_notIn (units65 hr)) op2_notIn (dp_of de_str) (dp_var 0) (by with_unfolding_all rfl)) (de_one (de_cmp (opr_notIn (units65 hr)) op2_notIn (dp_of de_str) (dp_var 0) (by with_unfolding_all rfl)))))))))
theorem sc_parse_put : FnScope ["lines", "at", "words", "many", "rows", "k"] ["lines", "at", "words"] (defScope (topS 12)) := ⟨rfl, rfl, rfl, by decide +kernel, rfl, by decide +kernel, by decide +kernel⟩
theorem ok_parse_put (T : Txt K mg) (D : All K mg) : FnOk P w K mg base (L2.CX P w) 3 D.d_parse_put.f D.d_parse_put.fd ["lines", "at", "words"] (spD K mg 3 m_parse_put) := fnD (k := 2) (N := ["lines", "at", "words", "many", "rows", "k"]) (ps := ["lines", "at", "words"]) (gb := g_parse_put) D.d_parse_put.F sc_parse_put fun cdv A outer s H E hr => by
  have sc := sc_parse_put
  have tk : Takes (cxOf (L2.CX P w) P w K mg base ["lines", "at", "words", "many", "rows", "k"] "parse_put" (defScope (topS 12)) D.d_parse_put.f cdv A outer s H E) (fun cls d _ H => E cls d H) := takes_of rfl rfl rfl rfl
  have PO : PassesOwn (model P w) (cxOf (L2.CX P w) P w K mg base ["lines", "at", "words", "many", "rows", "k"] "parse_put" (defScope (topS 12)) D.d_parse_put.f cdv A outer s H E).A (cxOf (L2.CX P w) P w K mg base ["lines", "at", "words", "many", "rows", "k"] "parse_put" (defScope (topS 12)) D.d_parse_put.f cdv A outer s H E).env (cxOf (L2.CX P w) P w K mg base ["lines", "at", "words", "many", "rows", "k"] "parse_put" (defScope (topS 12)) D.d_parse_put.f cdv A outer s H E).xe := passes_of rfl
  exact (ds_cons (ds_set (i := 3) sc.nd (de_if (PW.pt (dw_and (dt_cmp (op_eqD hr.units) op2_eq (dp_of (de_len T.n_len (dp_var 2))) (dp_of de_int) (nomark _)) (dw_and1 (dt_val (de_call (ok_is_label T D) (hr.mono (by decide)) tk D.d_is_label.g D.d_is_label.F.kp D.d_is_label.b (da_cons (de_of (dp_ix (dp_var 2) (dp_of de_int))) da_nil) (hn := runD_no)))))) (de_call (ok_digits_of T D) (hr.mono (by decide)) tk D.d_digits_of.g D.d_digits_of.F.kp D.d_digits_of.b (da_cons (de_of (dp_ix (dp_var 2) (dp_of de_int))) da_nil) (hn := runD_no)) de_non)) (ds_cons (ds_if (PW.pt (dw_or (dt_isN (dp_var 3)) (dw_or1 (dt_cmp (op_eqD hr.units) op2_eq (dp_var 3) (dp_of de_int) (nomark _))))) (ds_one (ds_raise1 T.x_BadLog (hr.mono (by decide)) tk rfl (de_op opr_add op2_add (dp_var 1) (dp_of de_int)))) ds_nil) (ds_cons (ds_set (i := 4) sc.nd (de_lst da_nil)) (ds_cons (ds_for (T := (.nm 5)) PO rfl (df_rng2 T.n_range (de_op opr_add op2_add (dp_var 1) (dp_of de_int)) (de_op opr_add op2_add (dp_of (de_op opr_add op2_add (dp_var 1) (dp_of de_int))) (dp_of (de_min rfl T.n_min (dp_var 3) (dp_of (de_len T.n_len (dp_var 0))))))) (pg_name (i := 5) sc.nd rfl (by first | exact .inl rfl | exact .inr rfl)) (ds_cons (ds_if (PW.pt (dw_or (dt_cmp op_ge op2_intB (dp_var 5) (dp_of (de_len T.n_len (dp_var 0))) (nomark _)) (dw_or1 (dt_cmp (op_neD hr.units) op2_ne (dp_of (de_sliceA (dp_ix (dp_var 0) (dp_var 5)) dpo_none (dpo_some de_int))) (dp_of de_str) (nomark _))))) (ds_one (ds_raise1 T.x_BadLog (hr.mono (by decide)) tk rfl (de_op opr_add op2_add (dp_var 5) (dp_of de_int)))) ds_nil) (ds_one (ds_app 4 (pe_bm PySem.F.plainAttrs_list PySem.F.slot_list_append PySem.F.type_list_append mt_append (pv 4) (pa_cons (de_sliceA (dp_ix (dp_var 0) (dp_var 5)) (dpo_some de_int) dpo_none) pa_nil)))))) (ds_one (ds_ret (de_tup (da_cons de_str (da_cons (de_of (dp_ix (dp_var 2) (dp_of de_int))) (da_cons (de_sm1 (pe_bm PySem.F.plainAttrs_str PySem.F.slot_str_join PySem.F.type_str_join mt_join (dp_of de_str) (pa_cons (dp_var 4) pa_nil)) op2_join) da_nil))))))))))
theorem sc_parse_line : FnScope ["lines", "at", "words", "reading"] ["lines", "at"] (defScope (topS 13)) := ⟨rfl, rfl, rfl, by decide +kernel, rfl, by decide +kernel, by decide +kernel⟩
theorem ok_parse_line (T : Txt K mg) (D : All K mg) : FnOk P w K mg base (L2.CX P w) 4 D.d_parse_line.f D.d_parse_line.fd ["lines", "at"] (spD K mg 2 m_parse_line) := fnD (k := 3) (N := ["lines", "at", "words", "reading"]) (ps := ["lines", "at"]) (gb := g_parse_line) D.d_parse_line.F sc_parse_line fun cdv A outer s H E hr => by
  have sc := sc_parse_line
  have tk : Takes (cxOf (L2.CX P w) P w K mg base ["lines", "at", "words", "reading"] "parse_line" (defScope (topS 13)) D.d_parse_line.f cdv A outer s H E) (fun cls d _ H => E cls d H) := takes_of rfl rfl rfl rfl
  have PO : PassesOwn (model P w) (cxOf (L2.CX P w) P w K mg base ["lines", "at", "words", "reading"] "parse_line" (defScope (topS 13)) D.d_parse_line.f cdv A outer s H E).A (cxOf (L2.CX P w) P w K mg base ["lines", "at", "words", "reading"] "parse_line" (defScope (topS 13)) D.d_parse_line.f cdv A outer s H E).env (cxOf (L2.CX P w) P w K mg base ["lines", "at", "words", "reading"] "parse_line" (defScope (topS 13)) D.d_parse_line.f cdv A outer s H E).xe := passes_of rfl
  exact (ds_cons (ds_set (i := 2) sc.nd (de_sm1 (pe_bm PySem.F.plainAttrs_str PySem.F.slot_str_split PySem.F.type_str_split mt_split (dp_ix (dp_var 0) (dp_var 1)) (pa_cons (dp_of de_str) pa_nil)) op2_split)) (ds_cons (ds_if (dt_cmp (op_eqD hr.units) op2_eq (dp_ix (dp_var 2) (dp_of de_int)) (dp_of de_str) (nomark _)) (ds_one (ds_frz [2] (ds_ret (de_call (ok_parse_put T D) (hr.mono (by decide)) tk D.d_parse_put.g D.d_parse_put.F.kp D.d_parse_put.b (da_cons (de_var 0) (da_cons (de_var 1) (da_cons (de_var 2) da_nil))) (hn := runD_no))))) ds_nil) (ds_cons (ds_if (dt_cmp (op_eqD hr.units) op2_eq (dp_var 2) (dp_of (de_lst (da_cons de_str da_nil))) (nomark _)) (ds_one (ds_ret (de_tup (da_cons de_str da_nil)))) ds_nil) (ds_cons (ds_if (PW.pt (dw_and (dt_cmp op_gt op2_intB (dp_of (de_len T.n_len (dp_var 2))) (dp_of de_int) (nomark _)) (dw_and1 (dt_val (de_call (ok_is_label T D) (hr.mono (by decide)) tk D.d_is_label.g D.d_is_label.F.kp D.d_is_label.b (da_cons (de_of (dp_ix (dp_var 2) (dp_of de_int))) da_nil) (hn := runD_no)))))) (ds_cons (ds_if (PW.pt (dw_and (dt_cmp (op_eqD hr.units) op2_eq (dp_ix (dp_var 2) (dp_of de_int)) (dp_of de_str) (nomark _)) (dw_and1 (dt_cmp (op_eqD hr.units) op2_eq (dp_of (de_len T.n_len (dp_var 2))) (dp_of de_int) (nomark _))))) (ds_one (ds_ret (de_tup (da_cons de_str (da_cons (de_of (dp_ix (dp_var 2) (dp_of de_int))) da_nil))))) ds_nil) (ds_one (ds_if (dt_cmp (op_eqD hr.units) op2_eq (dp_ix (dp_var 2) (dp_of de_int)) (dp_of de_str) (nomark _)) (ds_cons (ds_set (i := 3) sc.nd (de_call (ok_parse_reading T D) (hr.mono (by decide)) tk D.d_parse_reading.g D.d_parse_reading.F.kp D.d_parse_reading.b (da_cons (de_sliceA (dp_var 2) (dpo_some de_int) dpo_none) da_nil) (hn := runD_no))) (ds_one (ds_if (dt_notN (dp_var 3)) (ds_one (ds_ret (de_tup (da_cons de_str (da_cons (de_of (dp_ix (dp_var 2) (dp_of de_int))) (da_cons (de_var 3) da_nil)))))) ds_nil))) ds_nil))) ds_nil) (ds_one (ds_raise1 T.x_BadLog (hr.mono (by decide)) tk rfl (de_op opr_add op2_add (dp_var 1) (dp_of de_int))))))))
theorem sc_parse_log : FnScope ["text", "lines", "deeds", "at", "deed"] ["text"] (defScope (topS 14)) := ⟨rfl, rfl, rfl, by decide +kernel, rfl, by decide +kernel, by decide +kernel⟩
theorem ok_parse_log (T : Txt K mg) (D : All K mg) : FnOk P w K mg base (L2.CX P w) 5 D.d_parse_log.f D.d_parse_log.fd ["text"] (spD K mg 1 m_parse_log) := fnD (k := 4) (N := ["text", "lines", "deeds", "at", "deed"]) (ps := ["text"]) (gb := g_parse_log) D.d_parse_log.F sc_parse_log fun cdv A outer s H E hr => by
  have sc := sc_parse_log
  have tk : Takes (cxOf (L2.CX P w) P w K mg base ["text", "lines", "deeds", "at", "deed"] "parse_log" (defScope (topS 14)) D.d_parse_log.f cdv A outer s H E) (fun cls d _ H => E cls d H) := takes_of rfl rfl rfl rfl
  have PO : PassesOwn (model P w) (cxOf (L2.CX P w) P w K mg base ["text", "lines", "deeds", "at", "deed"] "parse_log" (defScope (topS 14)) D.d_parse_log.f cdv A outer s H E).A (cxOf (L2.CX P w) P w K mg base ["text", "lines", "deeds", "at", "deed"] "parse_log" (defScope (topS 14)) D.d_parse_log.f cdv A outer s H E).env (cxOf (L2.CX P w) P w K mg base ["text", "lines", "deeds", "at", "deed"] "parse_log" (defScope (topS 14)) D.d_parse_log.f cdv A outer s H E).xe := passes_of rfl
  exact (ds_cons (ds_set (i := 1) sc.nd (de_if (dt_cmp (op_neD hr.units) op2_ne (dp_var 0) (dp_of de_str) (nomark _)) (de_sm1 (pe_bm PySem.F.plainAttrs_str PySem.F.slot_str_split PySem.F.type_str_split mt_split (dp_var 0) (pa_cons (dp_of de_str) pa_nil)) op2_split) (de_lst da_nil))) (ds_cons (ds_set (i := 2) sc.nd (de_lst da_nil)) (ds_cons (ds_set (i := 3) sc.nd de_int) (ds_cons (ds_while 1000000 PO (dt_cmp op_lt op2_intB (dp_var 3) (dp_of (de_len T.n_len (dp_var 1))) (nomark _)) (ds_cons (ds_frz [1] (ds_set (i := 4) sc.nd (de_call (ok_parse_line T D) (hr.mono (by decide)) tk D.d_parse_line.g D.d_parse_line.F.kp D.d_parse_line.b (da_cons (de_var 1) (da_cons (de_var 3) da_nil)) (hn := runD_no)))) (ds_cons (ds_app 2 (pe_bm PySem.F.plainAttrs_list PySem.F.slot_list_append PySem.F.type_list_append mt_append (pv 2) (pa_cons (de_var 4) pa_nil))) (ds_cons (ds_aug 3 sc.nd de_int ip_add) (ds_one (ds_if (dt_cmp (op_eqD hr.units) op2_eq (dp_ix (dp_var 4) (dp_of de_int)) (dp_of de_str) (nomark _)) (ds_one (ds_aug 3 sc.nd (de_len T.n_len (dp_of (de_sm1 (pe_bm PySem.F.plainAttrs_str PySem.F.slot_str_split PySem.F.type_str_split mt_split (dp_ix (dp_var 4) (dp_of de_int)) (pa_cons (dp_of de_str) pa_nil)) op2_split))) ip_add)) ds_nil)))))) (ds_one (ds_retV 2))))))
theorem sc_law_parsed : FnScope ["text", "e"] ["text"] (defScope (topS 26)) := ⟨rfl, rfl, rfl, by decide +kernel, rfl, by decide +kernel, by decide +kernel⟩
theorem ok_law_parsed (T : Txt K mg) (D : All K mg) : FnOk P w K mg base (L2.CX P w) 6 D.d_law_parsed.f D.d_law_parsed.fd ["text"] (spD K mg 1 m_law_parsed) := fnD (k := 5) (N := ["text", "e"]) (ps := ["text"]) (gb := g_law_parsed) D.d_law_parsed.F sc_law_parsed fun cdv A outer s H E hr => by
  have sc := sc_law_parsed
  have tk : Takes (cxOf (L2.CX P w) P w K mg base ["text", "e"] "_law_parsed" (defScope (topS 26)) D.d_law_parsed.f cdv A outer s H E) (fun cls d _ H => E cls d H) := takes_of rfl rfl rfl rfl
  have PO : PassesOwn (model P w) (cxOf (L2.CX P w) P w K mg base ["text", "e"] "_law_parsed" (defScope (topS 26)) D.d_law_parsed.f cdv A outer s H E).A (cxOf (L2.CX P w) P w K mg base ["text", "e"] "_law_parsed" (defScope (topS 26)) D.d_law_parsed.f cdv A outer s H E).env (cxOf (L2.CX P w) P w K mg base ["text", "e"] "_law_parsed" (defScope (topS 26)) D.d_law_parsed.f cdv A outer s H E).xe := passes_of rfl
  exact (ds_one (ds_tryF (i := 1) T.x_BadLog sc.nd (fun W pn xe tk2 _ => (ds_one (ds_ret (de_call (ok_parse_log T D) (hr.mono (by decide)) tk2 D.d_parse_log.g D.d_parse_log.F.kp D.d_parse_log.b (da_cons (de_var 0) da_nil) (hn := runD_no)))))))
theorem sc_law : FnScope ["script", "deeds", "lines", "deed", "text", "pool", "digits", "more", "k"] ["script"] (defScope (topS 27)) := ⟨rfl, rfl, rfl, by decide +kernel, rfl, by decide +kernel, by decide +kernel⟩
theorem ok_law (T : Txt K mg) (D : All K mg) : FnOk P w K mg base (L2.CX P w) 14 D.d_law.f D.d_law.fd ["script"] (spD K mg 1 m_law) := fnD (k := 13) (N := ["script", "deeds", "lines", "deed", "text", "pool", "digits", "more", "k"]) (ps := ["script"]) (gb := g_law) D.d_law.F sc_law fun cdv A outer s H E hr => by
  have sc := sc_law
  have tk : Takes (cxOf (L2.CX P w) P w K mg base ["script", "deeds", "lines", "deed", "text", "pool", "digits", "more", "k"] "law" (defScope (topS 27)) D.d_law.f cdv A outer s H E) (fun cls d _ H => E cls d H) := takes_of rfl rfl rfl rfl
  have PO : PassesOwn (model P w) (cxOf (L2.CX P w) P w K mg base ["script", "deeds", "lines", "deed", "text", "pool", "digits", "more", "k"] "law" (defScope (topS 27)) D.d_law.f cdv A outer s H E).A (cxOf (L2.CX P w) P w K mg base ["script", "deeds", "lines", "deed", "text", "pool", "digits", "more", "k"] "law" (defScope (topS 27)) D.d_law.f cdv A outer s H E).env (cxOf (L2.CX P w) P w K mg base ["script", "deeds", "lines", "deed", "text", "pool", "digits", "more", "k"] "law" (defScope (topS 27)) D.d_law.f cdv A outer s H E).xe := passes_of rfl
  exact (ds_cons (ds_lc (i := 1) (T := (.nm 8)) rfl sc.nd (sw_true rfl rfl rfl (by decide +kernel)) (di_of (df_rng1 T.n_range (de_of (dp_ix (dp_of (de_call (ok_law_draw T D) (hr.mono (by decide)) tk D.d_law_draw.g D.d_law_draw.F.kp D.d_law_draw.b (da_cons (de_var 0) (da_cons de_int (da_cons (de_lst (da_cons de_int da_nil)) da_nil))) (hn := runD_no))) (dp_of de_int))))) (blkOk_by (own := [(PySem.Str.ofString "k", 8)]) (by show blkC ["script", "deeds", "lines", "deed", "text", "pool", "digits", "more", "k"] (defScope (topS 27)) _ _ = true; decide +kernel)) (fun s H C cl fp => (pg_name (i := 8) sc.nd rfl (by first | exact .inl rfl | exact .inr rfl))) (fun s H C cl fp => dts_nil) (fun s H C cl fp => (de_call (ok_law_some_deed T D) (hr.mono (by decide)) takes0 D.d_law_some_deed.g D.d_law_some_deed.F.kp D.d_law_some_deed.b (da_cons (de_var 0) (da_cons (de_op opr_add op2_add (dp_of de_int) (dp_var 8)) da_nil)) (hn := runD_no)))) (ds_cons (ds_set (i := 2) sc.nd (de_lst da_nil)) (ds_cons (ds_frz [1] (ds_for (T := (.nm 3)) PO rfl (df_any (de_var 1)) (pg_name (i := 3) sc.nd rfl (by first | exact .inl rfl | exact .inr rfl)) (ds_one (ds_set (i := 2) sc.nd (de_op opr_add op2_add (dp_var 2) (dp_of (de_call (ok_law_deed_lines T D) (hr.mono (by decide)) tk D.d_law_deed_lines.g D.d_law_deed_lines.F.kp D.d_law_deed_lines.b (da_cons (de_var 3) da_nil) (hn := runD_no)))))))) (ds_cons (ds_set (i := 4) sc.nd (de_sm1 (pe_bm PySem.F.plainAttrs_str PySem.F.slot_str_join PySem.F.type_str_join mt_join (dp_of de_str) (pa_cons (dp_var 2) pa_nil)) op2_join)) (ds_cons (ds_frz [1] (ds_if (PW.pt (dw_or (dt_not (dt_val (de_call (ok_law_alike T D 12) (hr.mono (by decide)) tk D.d_law_alike.g D.d_law_alike.F.kp D.d_law_alike.b (da_cons (de_call (ok_print_log T D) (hr.mono (by decide)) tk D.d_print_log.g D.d_print_log.F.kp D.d_print_log.b (da_cons (de_var 1) da_nil) (hn := runD_no)) (da_cons (de_var 4) da_nil)) (hn := mn_law_alike 12)))) (dw_or1 (dt_not (dt_val (de_call (ok_law_alike T D 12) (hr.mono (by decide)) tk D.d_law_alike.g D.d_law_alike.F.kp D.d_law_alike.b (da_cons (de_call (ok_law_parsed T D) (hr.mono (by decide)) tk D.d_law_parsed.g D.d_law_parsed.F.kp D.d_law_parsed.b (da_cons (de_var 4) da_nil) (hn := runD_no)) (da_cons (de_var 1) da_nil)) (hn := mn_law_alike 12))))))) (ds_one (ds_ret de_bl)) ds_nil)) (ds_cons (ds_set (i := 5) sc.nd (de_lst (da_cons de_str (da_cons de_str (da_cons de_str (da_cons de_str (da_cons de_str (da_cons de_str (da_cons de_str (da_cons de_str (da_cons de_str (da_cons de_str (da_cons de_str (da_cons de_str da_nil)))))))))))))) (ds_cons (ds_set (i := 5) sc.nd (de_op opr_add op2_add (dp_var 5) (dp_of (de_lst (da_cons de_str (da_cons de_str (da_cons de_str (da_cons de_str (da_cons de_str (da_cons de_str (da_cons de_str (da_cons de_str (da_cons de_str (da_cons de_str (da_cons de_str (da_cons de_str da_nil)))))))))))))))) (ds_cons (ds_set (i := 6) sc.nd (de_call (ok_law_draw T D) (hr.mono (by decide)) tk D.d_law_draw.g D.d_law_draw.F.kp D.d_law_draw.b (da_cons (de_var 0) (da_cons de_int (da_cons (de_op opr_add op2_add (dp_of (de_lst (da_cons de_int da_nil))) (dp_of (de_op opr_mul op2_mul (dp_of (de_lst (da_cons de_int da_nil))) (dp_of de_int)))) da_nil))) (hn := runD_no))) (ds_cons (ds_lc (i := 7) (T := (.nm 8)) rfl sc.nd (sw_true rfl rfl rfl (by decide +kernel)) (di_of (df_rng1 T.n_range (de_of (dp_ix (dp_var 6) (dp_of de_int))))) (blkOk_by (own := [(PySem.Str.ofString "k", 8)]) (by show blkC ["script", "deeds", "lines", "deed", "text", "pool", "digits", "more", "k"] (defScope (topS 27)) _ _ = true; decide +kernel)) (fun s H C cl fp => (pg_name (i := 8) sc.nd rfl (by first | exact .inl rfl | exact .inr rfl))) (fun s H C cl fp => dts_nil) (fun s H C cl fp => (de_of (dp_ix (dp_var 5) (dp_ix (dp_var 6) (dp_of (de_op opr_add op2_add (dp_of de_int) (dp_var 8)))))))) (ds_cons (ds_if (dt_cmp (op_eqD hr.units) op2_eq (dp_of (de_op op_mod op2_mod (dp_of (de_len T.n_len (dp_var 0))) (dp_of de_int))) (dp_of de_int) (nomark _)) (ds_one (ds_set (i := 7) sc.nd (de_op opr_add op2_add (dp_var 2) (dp_of (de_sliceA (dp_var 7) dpo_none (dpo_some de_int)))))) ds_nil) (ds_one (ds_ret (de_call (ok_law_alike T D 12) (hr.mono (by decide)) tk D.d_law_alike.g D.d_law_alike.F.kp D.d_law_alike.b (da_cons (de_call (ok_law_parsed T D) (hr.mono (by decide)) tk D.d_law_parsed.g D.d_law_parsed.F.kp D.d_law_parsed.b (da_cons (de_sm1 (pe_bm PySem.F.plainAttrs_str PySem.F.slot_str_join PySem.F.type_str_join mt_join (dp_of de_str) (pa_cons (dp_var 7) pa_nil)) op2_join) da_nil) (hn := runD_no)) (da_cons (de_call (ok_law_due T D) (hr.mono (by decide)) tk D.d_law_due.g D.d_law_due.F.kp D.d_law_due.b (da_cons (de_sm1 (pe_bm PySem.F.plainAttrs_str PySem.F.slot_str_join PySem.F.type_str_join mt_join (dp_of de_str) (pa_cons (dp_var 7) pa_nil)) op2_join) da_nil) (hn := runD_no)) da_nil)) (hn := mn_law_alike 12))))))))))))))
end
end K94
namespace K94
open PySem PySem.Spec PyProof.Rows L2 DL
theorem all_mk {P : Program} {w : World} {K : PySem.W.Frag} {h : Heap} {mg : Str → Option Value} {fa : Addr} (X : K.In h) (G : h.Ns mainGlobals mg) (hfa : mg "law" = some (.ref fa))
    {f0 : Addr} {od0 an0 : Option Addr} {sl0 : Array (Option Value)} {oc0 kV0 dc0 pm0 cd0 ct0 : Value}
    {f1 : Addr} {od1 an1 : Option Addr} {sl1 : Array (Option Value)} {oc1 kV1 dc1 pm1 cd1 ct1 : Value}
    {f2 : Addr} {od2 an2 : Option Addr} {sl2 : Array (Option Value)} {oc2 kV2 dc2 pm2 cd2 ct2 : Value}
    {f3 : Addr} {od3 an3 : Option Addr} {sl3 : Array (Option Value)} {oc3 kV3 dc3 pm3 cd3 ct3 : Value}
    {f4 : Addr} {od4 an4 : Option Addr} {sl4 : Array (Option Value)} {oc4 kV4 dc4 pm4 cd4 ct4 : Value}
    {f5 : Addr} {od5 an5 : Option Addr} {sl5 : Array (Option Value)} {oc5 kV5 dc5 pm5 cd5 ct5 : Value}
    {f6 : Addr} {od6 an6 : Option Addr} {sl6 : Array (Option Value)} {oc6 kV6 dc6 pm6 cd6 ct6 : Value}
    {f7 : Addr} {od7 an7 : Option Addr} {sl7 : Array (Option Value)} {oc7 kV7 dc7 pm7 cd7 ct7 : Value}
    {f8 : Addr} {od8 an8 : Option Addr} {sl8 : Array (Option Value)} {oc8 kV8 dc8 pm8 cd8 ct8 : Value}
    {f9 : Addr} {od9 an9 : Option Addr} {sl9 : Array (Option Value)} {oc9 kV9 dc9 pm9 cd9 ct9 : Value}
    {f10 : Addr} {od10 an10 : Option Addr} {sl10 : Array (Option Value)} {oc10 kV10 dc10 pm10 cd10 ct10 : Value}
    {f11 : Addr} {od11 an11 : Option Addr} {sl11 : Array (Option Value)} {oc11 kV11 dc11 pm11 cd11 ct11 : Value}
    {f12 : Addr} {od12 an12 : Option Addr} {sl12 : Array (Option Value)} {oc12 kV12 dc12 pm12 cd12 ct12 : Value}
    {f13 : Addr} {od13 an13 : Option Addr} {sl13 : Array (Option Value)} {oc13 kV13 dc13 pm13 cd13 ct13 : Value}
    {f14 : Addr} {od14 an14 : Option Addr} {sl14 : Array (Option Value)} {oc14 kV14 dc14 pm14 cd14 ct14 : Value}
    {f15 : Addr} {od15 an15 : Option Addr} {sl15 : Array (Option Value)} {oc15 kV15 dc15 pm15 cd15 ct15 : Value}
    {f16 : Addr} {od16 an16 : Option Addr} {sl16 : Array (Option Value)} {oc16 kV16 dc16 pm16 cd16 ct16 : Value}
    {f17 : Addr} {od17 an17 : Option Addr} {sl17 : Array (Option Value)} {oc17 kV17 dc17 pm17 cd17 ct17 : Value}
    {f18 : Addr} {od18 an18 : Option Addr} {sl18 : Array (Option Value)} {oc18 kV18 dc18 pm18 cd18 ct18 : Value}
    {f19 : Addr} {od19 an19 : Option Addr} {sl19 : Array (Option Value)} {oc19 kV19 dc19 pm19 cd19 ct19 : Value}
    {f20 : Addr} {od20 an20 : Option Addr} {sl20 : Array (Option Value)} {oc20 kV20 dc20 pm20 cd20 ct20 : Value}
    {f21 : Addr} {od21 an21 : Option Addr} {sl21 : Array (Option Value)} {oc21 kV21 dc21 pm21 cd21 ct21 : Value}
    {C0 W0 N0 g0 : Addr} {nm0 q0 : Str} {bs0 : List Value} {sn0 : List Str} {sub0 : List Value} {ab0 : Bool} {col0 : Option Bool} {dd0 : Option Addr} {m00 m10 m20 m30 m50 : Option Value} {xod0 xan0 : Option Addr} {xsl0 : Array (Option Value)} {xoc0 xkV0 xdc0 xpm0 xcd0 xct0 : Value}
    (a0 : PySem.W.nsIn K mainGlobals "print_item" = some (some (.ref f0)))
    (l0 : K.lookup f0 = some ⟨oc0, od0, .func (PySem.W.fnOf "print_item" "print_item" (defArgs (topS 6)) (defBody (topS 6)) (defScope (topS 6)) .none kV0 dc0 pm0 an0 cd0 ct0), sl0⟩)
    (c0 : PySem.W.codeIn K cd0 "print_item" = true)
    (k0 : PySem.W.keepIn K (.ref f0) = true)
    (a1 : PySem.W.nsIn K mainGlobals "print_deed" = some (some (.ref f1)))
    (l1 : K.lookup f1 = some ⟨oc1, od1, .func (PySem.W.fnOf "print_deed" "print_deed" (defArgs (topS 7)) (defBody (topS 7)) (defScope (topS 7)) .none kV1 dc1 pm1 an1 cd1 ct1), sl1⟩)
    (c1 : PySem.W.codeIn K cd1 "print_deed" = true)
    (k1 : PySem.W.keepIn K (.ref f1) = true)
    (a2 : PySem.W.nsIn K mainGlobals "print_log" = some (some (.ref f2)))
    (l2 : K.lookup f2 = some ⟨oc2, od2, .func (PySem.W.fnOf "print_log" "print_log" (defArgs (topS 8)) (defBody (topS 8)) (defScope (topS 8)) .none kV2 dc2 pm2 an2 cd2 ct2), sl2⟩)
    (c2 : PySem.W.codeIn K cd2 "print_log" = true)
    (k2 : PySem.W.keepIn K (.ref f2) = true)
    (a3 : PySem.W.nsIn K mainGlobals "_law_cell" = some (some (.ref f3)))
    (l3 : K.lookup f3 = some ⟨oc3, od3, .func (PySem.W.fnOf "_law_cell" "_law_cell" (defArgs (topS 16)) (defBody (topS 16)) (defScope (topS 16)) .none kV3 dc3 pm3 an3 cd3 ct3), sl3⟩)
    (c3 : PySem.W.codeIn K cd3 "_law_cell" = true)
    (k3 : PySem.W.keepIn K (.ref f3) = true)
    (a4 : PySem.W.nsIn K mainGlobals "_law_draw" = some (some (.ref f4)))
    (l4 : K.lookup f4 = some ⟨oc4, od4, .func (PySem.W.fnOf "_law_draw" "_law_draw" (defArgs (topS 17)) (defBody (topS 17)) (defScope (topS 17)) .none kV4 dc4 pm4 an4 cd4 ct4), sl4⟩)
    (c4 : PySem.W.codeIn K cd4 "_law_draw" = true)
    (k4 : PySem.W.keepIn K (.ref f4) = true)
    (a5 : PySem.W.nsIn K mainGlobals "_law_some_deed" = some (some (.ref f5)))
    (l5 : K.lookup f5 = some ⟨oc5, od5, .func (PySem.W.fnOf "_law_some_deed" "_law_some_deed" (defArgs (topS 18)) (defBody (topS 18)) (defScope (topS 18)) .none kV5 dc5 pm5 an5 cd5 ct5), sl5⟩)
    (c5 : PySem.W.codeIn K cd5 "_law_some_deed" = true)
    (k5 : PySem.W.keepIn K (.ref f5) = true)
    (a6 : PySem.W.nsIn K mainGlobals "_law_deed_lines" = some (some (.ref f6)))
    (l6 : K.lookup f6 = some ⟨oc6, od6, .func (PySem.W.fnOf "_law_deed_lines" "_law_deed_lines" (defArgs (topS 19)) (defBody (topS 19)) (defScope (topS 19)) .none kV6 dc6 pm6 an6 cd6 ct6), sl6⟩)
    (c6 : PySem.W.codeIn K cd6 "_law_deed_lines" = true)
    (k6 : PySem.W.keepIn K (.ref f6) = true)
    (a7 : PySem.W.nsIn K mainGlobals "_law_alike" = some (some (.ref f7)))
    (l7 : K.lookup f7 = some ⟨oc7, od7, .func (PySem.W.fnOf "_law_alike" "_law_alike" (defArgs (topS 20)) (defBody (topS 20)) (defScope (topS 20)) .none kV7 dc7 pm7 an7 cd7 ct7), sl7⟩)
    (c7 : PySem.W.codeIn K cd7 "_law_alike" = true)
    (k7 : PySem.W.keepIn K (.ref f7) = true)
    (a8 : PySem.W.nsIn K mainGlobals "_law_digits" = some (some (.ref f8)))
    (l8 : K.lookup f8 = some ⟨oc8, od8, .func (PySem.W.fnOf "_law_digits" "_law_digits" (defArgs (topS 21)) (defBody (topS 21)) (defScope (topS 21)) .none kV8 dc8 pm8 an8 cd8 ct8), sl8⟩)
    (c8 : PySem.W.codeIn K cd8 "_law_digits" = true)
    (k8 : PySem.W.keepIn K (.ref f8) = true)
    (a9 : PySem.W.nsIn K mainGlobals "_law_items" = some (some (.ref f9)))
    (l9 : K.lookup f9 = some ⟨oc9, od9, .func (PySem.W.fnOf "_law_items" "_law_items" (defArgs (topS 22)) (defBody (topS 22)) (defScope (topS 22)) .none kV9 dc9 pm9 an9 cd9 ct9), sl9⟩)
    (c9 : PySem.W.codeIn K cd9 "_law_items" = true)
    (k9 : PySem.W.keepIn K (.ref f9) = true)
    (a10 : PySem.W.nsIn K mainGlobals "_law_label" = some (some (.ref f10)))
    (l10 : K.lookup f10 = some ⟨oc10, od10, .func (PySem.W.fnOf "_law_label" "_law_label" (defArgs (topS 23)) (defBody (topS 23)) (defScope (topS 23)) .none kV10 dc10 pm10 an10 cd10 ct10), sl10⟩)
    (c10 : PySem.W.codeIn K cd10 "_law_label" = true)
    (k10 : PySem.W.keepIn K (.ref f10) = true)
    (a11 : PySem.W.nsIn K mainGlobals "_law_line" = some (some (.ref f11)))
    (l11 : K.lookup f11 = some ⟨oc11, od11, .func (PySem.W.fnOf "_law_line" "_law_line" (defArgs (topS 24)) (defBody (topS 24)) (defScope (topS 24)) .none kV11 dc11 pm11 an11 cd11 ct11), sl11⟩)
    (c11 : PySem.W.codeIn K cd11 "_law_line" = true)
    (k11 : PySem.W.keepIn K (.ref f11) = true)
    (a12 : PySem.W.nsIn K mainGlobals "_law_due" = some (some (.ref f12)))
    (l12 : K.lookup f12 = some ⟨oc12, od12, .func (PySem.W.fnOf "_law_due" "_law_due" (defArgs (topS 25)) (defBody (topS 25)) (defScope (topS 25)) .none kV12 dc12 pm12 an12 cd12 ct12), sl12⟩)
    (c12 : PySem.W.codeIn K cd12 "_law_due" = true)
    (k12 : PySem.W.keepIn K (.ref f12) = true)
    (a13 : PySem.W.nsIn K mainGlobals "digits_of" = some (some (.ref f13)))
    (l13 : K.lookup f13 = some ⟨oc13, od13, .func (PySem.W.fnOf "digits_of" "digits_of" (defArgs (topS 4)) (defBody (topS 4)) (defScope (topS 4)) .none kV13 dc13 pm13 an13 cd13 ct13), sl13⟩)
    (c13 : PySem.W.codeIn K cd13 "digits_of" = true)
    (k13 : PySem.W.keepIn K (.ref f13) = true)
    (a14 : PySem.W.nsIn K mainGlobals "parse_item" = some (some (.ref f14)))
    (l14 : K.lookup f14 = some ⟨oc14, od14, .func (PySem.W.fnOf "parse_item" "parse_item" (defArgs (topS 9)) (defBody (topS 9)) (defScope (topS 9)) .none kV14 dc14 pm14 an14 cd14 ct14), sl14⟩)
    (c14 : PySem.W.codeIn K cd14 "parse_item" = true)
    (k14 : PySem.W.keepIn K (.ref f14) = true)
    (a15 : PySem.W.nsIn K mainGlobals "parse_reading" = some (some (.ref f15)))
    (l15 : K.lookup f15 = some ⟨oc15, od15, .func (PySem.W.fnOf "parse_reading" "parse_reading" (defArgs (topS 10)) (defBody (topS 10)) (defScope (topS 10)) .none kV15 dc15 pm15 an15 cd15 ct15), sl15⟩)
    (c15 : PySem.W.codeIn K cd15 "parse_reading" = true)
    (k15 : PySem.W.keepIn K (.ref f15) = true)
    (a16 : PySem.W.nsIn K mainGlobals "is_label" = some (some (.ref f16)))
    (l16 : K.lookup f16 = some ⟨oc16, od16, .func (PySem.W.fnOf "is_label" "is_label" (defArgs (topS 11)) (defBody (topS 11)) (defScope (topS 11)) .none kV16 dc16 pm16 an16 cd16 ct16), sl16⟩)
    (c16 : PySem.W.codeIn K cd16 "is_label" = true)
    (k16 : PySem.W.keepIn K (.ref f16) = true)
    (a17 : PySem.W.nsIn K mainGlobals "parse_put" = some (some (.ref f17)))
    (l17 : K.lookup f17 = some ⟨oc17, od17, .func (PySem.W.fnOf "parse_put" "parse_put" (defArgs (topS 12)) (defBody (topS 12)) (defScope (topS 12)) .none kV17 dc17 pm17 an17 cd17 ct17), sl17⟩)
    (c17 : PySem.W.codeIn K cd17 "parse_put" = true)
    (k17 : PySem.W.keepIn K (.ref f17) = true)
    (a18 : PySem.W.nsIn K mainGlobals "parse_line" = some (some (.ref f18)))
    (l18 : K.lookup f18 = some ⟨oc18, od18, .func (PySem.W.fnOf "parse_line" "parse_line" (defArgs (topS 13)) (defBody (topS 13)) (defScope (topS 13)) .none kV18 dc18 pm18 an18 cd18 ct18), sl18⟩)
    (c18 : PySem.W.codeIn K cd18 "parse_line" = true)
    (k18 : PySem.W.keepIn K (.ref f18) = true)
    (a19 : PySem.W.nsIn K mainGlobals "parse_log" = some (some (.ref f19)))
    (l19 : K.lookup f19 = some ⟨oc19, od19, .func (PySem.W.fnOf "parse_log" "parse_log" (defArgs (topS 14)) (defBody (topS 14)) (defScope (topS 14)) .none kV19 dc19 pm19 an19 cd19 ct19), sl19⟩)
    (c19 : PySem.W.codeIn K cd19 "parse_log" = true)
    (k19 : PySem.W.keepIn K (.ref f19) = true)
    (a20 : PySem.W.nsIn K mainGlobals "_law_parsed" = some (some (.ref f20)))
    (l20 : K.lookup f20 = some ⟨oc20, od20, .func (PySem.W.fnOf "_law_parsed" "_law_parsed" (defArgs (topS 26)) (defBody (topS 26)) (defScope (topS 26)) .none kV20 dc20 pm20 an20 cd20 ct20), sl20⟩)
    (c20 : PySem.W.codeIn K cd20 "_law_parsed" = true)
    (k20 : PySem.W.keepIn K (.ref f20) = true)
    (a21 : PySem.W.nsIn K mainGlobals "law" = some (some (.ref f21)))
    (l21 : K.lookup f21 = some ⟨oc21, od21, .func (PySem.W.fnOf "law" "law" (defArgs (topS 27)) (defBody (topS 27)) (defScope (topS 27)) .none kV21 dc21 pm21 an21 cd21 ct21), sl21⟩)
    (c21 : PySem.W.codeIn K cd21 "law" = true)
    (k21 : PySem.W.keepIn K (.ref f21) = true)
    (z_bool : PySem.W.nsIn K mainGlobals "bool" = some none)
    (z_int : PySem.W.nsIn K mainGlobals "int" = some none)
    (z_isinstance : PySem.W.nsIn K mainGlobals "isinstance" = some none)
    (z_len : PySem.W.nsIn K mainGlobals "len" = some none)
    (z_list : PySem.W.nsIn K mainGlobals "list" = some none)
    (z_min : PySem.W.nsIn K mainGlobals "min" = some none)
    (z_range : PySem.W.nsIn K mainGlobals "range" = some none)
    (z_str : PySem.W.nsIn K mainGlobals "str" = some none)
    (z_tuple : PySem.W.nsIn K mainGlobals "tuple" = some none)
    (ea0 : PySem.W.nsIn K mainGlobals "BadLog" = some (some (.ref C0)))
    (el0 : K.lookup C0 = some (excClassObj nm0 q0 C0 N0 bs0 [.ref W0, .type "ValueError", .type "Exception", .type "BaseException", .type "object"] true sn0 sub0 ab0 col0 dd0 m00 m10 m20 m30 m50 "ValueError.__new__"))
    (es0 : PySem.W.findIn K (.ref C0) "__setattr__" = some (some (.builtin "object.__setattr__")))
    (eg0 : PySem.W.findIn K (.ref C0) "__getattribute__" = some (some (.builtin "BaseException.__getattribute__")))
    (eh0 : PySem.W.findIn K (.ref C0) "__getattr__" = some none)
    (en0 : PySem.W.findIn K (.ref C0) "line" = some none)
    (ei0 : PySem.W.findIn K (.ref C0) "__init__" = some (some (.ref g0)))
    (et0 : PySem.W.typeIn K (.ref g0) = some (.type "function"))
    (em0 : K.lookup g0 = some ⟨xoc0, xod0, .func (PySem.W.fnOf "__init__" "BadLog.__init__" (defArgs (inClass (topS 2) 0)) (defBody (inClass (topS 2) 0)) (defScope (inClass (topS 2) 0)) .none xkV0 xdc0 xpm0 xan0 xcd0 xct0), xsl0⟩)
    (eo0 : PySem.W.codeIn K xcd0 "BadLog.__init__" = true)
    (ej0 : PySem.W.keepIn K (.ref g0) = true)
    (ek0 : PySem.W.keepIn K (.ref C0) = true)
    (eb0 : PySem.W.subIn K (.ref C0) (.type "BaseException") = some true)
    (ey0 : PySem.W.typeIn K (.ref C0) = some (.type "type"))
    (ed0 : PySem.W.hasDictIn K C0 = true)
    (ec0 : PySem.W.isClsIn K C0 = true)
    (ez0 : PySem.W.subIn K (.ref C0) (.ref C0) = some true) :
    ∃ fd : FuncData, (∀ (s : Shared) (v : Value), BindsTo s fd ⟨[v], []⟩ [("script", v)]) ∧ ∀ base : Heap, K.In base → base.Ns mainGlobals mg → FnOk P w K mg base (L2.CX P w) 14 fa fd ["script"] (spLaw K) := by
  have e := hfa.symm.trans (PySem.W.mg_of X G a21)
  cases e
  have T : Txt K mg := { n_bool := PySem.W.mg_none_of X G z_bool, n_int := PySem.W.mg_none_of X G z_int, n_isinstance := PySem.W.mg_none_of X G z_isinstance, n_len := PySem.W.mg_none_of X G z_len, n_list := PySem.W.mg_none_of X G z_list, n_min := PySem.W.mg_none_of X G z_min, n_range := PySem.W.mg_none_of X G z_range, n_str := PySem.W.mg_none_of X G z_str, n_tuple := PySem.W.mg_none_of X G z_tuple, x_BadLog := ⟨⟨C0, g0, _, _, PySem.W.mg_of X G ea0, ⟨⟨nm0, q0, N0, bs0, _, sn0, sub0, ab0, col0, dd0, m00, m10, m20, m30, m50, el0, by rfl⟩, es0, eb0, ey0, ek0⟩, ⟨eg0, eh0, eb0, ed0⟩, en0, ei0, et0, fun_mk em0 eo0 ej0, (fun_mk (st := (inClass (topS 2) 0)) em0 eo0 ej0).binds (ps := ["self", "line"]) fun _ _ _ _ _ _ us hl => match us, hl with | [_, _], _ => rfl, exm_same eb0 ec0 ey0 ez0⟩, ⟨rfl, rfl, rfl, by decide +kernel, rfl, by decide +kernel, by decide +kernel⟩, ⟨_, _, _, _, rfl⟩, rfl, rfl, by decide, by decide⟩ }
  have D : { D : All K mg // D.d_law.f = fa ∧ D.d_law.fd = PySem.W.fnOf "law" "law" (defArgs (topS 27)) (defBody (topS 27)) (defScope (topS 27)) .none kV21 dc21 pm21 an21 cd21 ct21 } := ⟨{
    d_print_item := ⟨f0, _, fun_mk l0 c0 k0, PySem.W.mg_of X G a0, (fun_mk (st := topS 6) l0 c0 k0).binds fun _ _ _ _ _ _ us hl => match us, hl with | [_], _ => rfl⟩,
    d_print_deed := ⟨f1, _, fun_mk l1 c1 k1, PySem.W.mg_of X G a1, (fun_mk (st := topS 7) l1 c1 k1).binds fun _ _ _ _ _ _ us hl => match us, hl with | [_], _ => rfl⟩,
    d_print_log := ⟨f2, _, fun_mk l2 c2 k2, PySem.W.mg_of X G a2, (fun_mk (st := topS 8) l2 c2 k2).binds fun _ _ _ _ _ _ us hl => match us, hl with | [_], _ => rfl⟩,
    d_law_cell := ⟨f3, _, fun_mk l3 c3 k3, PySem.W.mg_of X G a3, (fun_mk (st := topS 16) l3 c3 k3).binds fun _ _ _ _ _ _ us hl => match us, hl with | [_, _], _ => rfl⟩,
    d_law_draw := ⟨f4, _, fun_mk l4 c4 k4, PySem.W.mg_of X G a4, (fun_mk (st := topS 17) l4 c4 k4).binds fun _ _ _ _ _ _ us hl => match us, hl with | [_, _, _], _ => rfl⟩,
    d_law_some_deed := ⟨f5, _, fun_mk l5 c5 k5, PySem.W.mg_of X G a5, (fun_mk (st := topS 18) l5 c5 k5).binds fun _ _ _ _ _ _ us hl => match us, hl with | [_, _], _ => rfl⟩,
    d_law_deed_lines := ⟨f6, _, fun_mk l6 c6 k6, PySem.W.mg_of X G a6, (fun_mk (st := topS 19) l6 c6 k6).binds fun _ _ _ _ _ _ us hl => match us, hl with | [_], _ => rfl⟩,
    d_law_alike := ⟨f7, _, fun_mk l7 c7 k7, PySem.W.mg_of X G a7, (fun_mk (st := topS 20) l7 c7 k7).binds fun _ _ _ _ _ _ us hl => match us, hl with | [_, _], _ => rfl⟩,
    d_law_digits := ⟨f8, _, fun_mk l8 c8 k8, PySem.W.mg_of X G a8, (fun_mk (st := topS 21) l8 c8 k8).binds fun _ _ _ _ _ _ us hl => match us, hl with | [_], _ => rfl⟩,
    d_law_items := ⟨f9, _, fun_mk l9 c9 k9, PySem.W.mg_of X G a9, (fun_mk (st := topS 22) l9 c9 k9).binds fun _ _ _ _ _ _ us hl => match us, hl with | [_], _ => rfl⟩,
    d_law_label := ⟨f10, _, fun_mk l10 c10 k10, PySem.W.mg_of X G a10, (fun_mk (st := topS 23) l10 c10 k10).binds fun _ _ _ _ _ _ us hl => match us, hl with | [_], _ => rfl⟩,
    d_law_line := ⟨f11, _, fun_mk l11 c11 k11, PySem.W.mg_of X G a11, (fun_mk (st := topS 24) l11 c11 k11).binds fun _ _ _ _ _ _ us hl => match us, hl with | [_, _], _ => rfl⟩,
    d_law_due := ⟨f12, _, fun_mk l12 c12 k12, PySem.W.mg_of X G a12, (fun_mk (st := topS 25) l12 c12 k12).binds fun _ _ _ _ _ _ us hl => match us, hl with | [_], _ => rfl⟩,
    d_digits_of := ⟨f13, _, fun_mk l13 c13 k13, PySem.W.mg_of X G a13, (fun_mk (st := topS 4) l13 c13 k13).binds fun _ _ _ _ _ _ us hl => match us, hl with | [_], _ => rfl⟩,
    d_parse_item := ⟨f14, _, fun_mk l14 c14 k14, PySem.W.mg_of X G a14, (fun_mk (st := topS 9) l14 c14 k14).binds fun _ _ _ _ _ _ us hl => match us, hl with | [_], _ => rfl⟩,
    d_parse_reading := ⟨f15, _, fun_mk l15 c15 k15, PySem.W.mg_of X G a15, (fun_mk (st := topS 10) l15 c15 k15).binds fun _ _ _ _ _ _ us hl => match us, hl with | [_], _ => rfl⟩,
    d_is_label := ⟨f16, _, fun_mk l16 c16 k16, PySem.W.mg_of X G a16, (fun_mk (st := topS 11) l16 c16 k16).binds fun _ _ _ _ _ _ us hl => match us, hl with | [_], _ => rfl⟩,
    d_parse_put := ⟨f17, _, fun_mk l17 c17 k17, PySem.W.mg_of X G a17, (fun_mk (st := topS 12) l17 c17 k17).binds fun _ _ _ _ _ _ us hl => match us, hl with | [_, _, _], _ => rfl⟩,
    d_parse_line := ⟨f18, _, fun_mk l18 c18 k18, PySem.W.mg_of X G a18, (fun_mk (st := topS 13) l18 c18 k18).binds fun _ _ _ _ _ _ us hl => match us, hl with | [_, _], _ => rfl⟩,
    d_parse_log := ⟨f19, _, fun_mk l19 c19 k19, PySem.W.mg_of X G a19, (fun_mk (st := topS 14) l19 c19 k19).binds fun _ _ _ _ _ _ us hl => match us, hl with | [_], _ => rfl⟩,
    d_law_parsed := ⟨f20, _, fun_mk l20 c20 k20, PySem.W.mg_of X G a20, (fun_mk (st := topS 26) l20 c20 k20).binds fun _ _ _ _ _ _ us hl => match us, hl with | [_], _ => rfl⟩,
    d_law := ⟨fa, _, fun_mk l21 c21 k21, PySem.W.mg_of X G a21, (fun_mk (st := topS 27) l21 c21 k21).binds fun _ _ _ _ _ _ us hl => match us, hl with | [_], _ => rfl⟩ }, rfl, rfl⟩
  obtain ⟨D, e1, e2⟩ := D
  refine ⟨D.d_law.fd, fun s v => ?_, fun base _ _ => ?_⟩
  · rw [e2]
    exact .of_eq rfl
  · rw [← e1]
    exact law_end (ok_law T D) law_true
end K94
open PySem PySem.W PyProof.Rows
set_option maxHeartbeats 0 in
theorem PySem.Challenge.cw_wardenworks_k94_texts_of_logbooks_holds : PySem.Challenge.rw_wardenworks_k94_texts_of_logbooks.Holds := by
  w_on; o_law; k_head; (case hw => w_witness2)
  k_fill
  refine L2.walk_of (l := PySem.Challenge.rw_wardenworks_k94_texts_of_logbooks) (n := 63) (k := 14) (x := "script") (CX := fun w => L2.CX PySem.Challenge.rw_wardenworks_k94_texts_of_logbooks.prog w) (sp := fun w => DL.spLaw _) rfl (by decide) rfl ⟨rfl, by decide, by decide⟩ (fun w h Y => PySem.W.kIn_of Y) ?F (fun _ _ a ns hl _ hS => ⟨a, ns, rfl, hS, hl, fun _ => rfl⟩) (fun _ _ _ _ _ h => DL.cx_never h)
  case F =>
    intro w mg fa h KX G hmg
    refine' K94.all_mk KX G hmg ?a0 ?l0 ?c0 ?k0 ?a1 ?l1 ?c1 ?k1 ?a2 ?l2 ?c2 ?k2 ?a3 ?l3 ?c3 ?k3 ?a4 ?l4 ?c4 ?k4 ?a5 ?l5 ?c5 ?k5 ?a6 ?l6 ?c6 ?k6 ?a7 ?l7 ?c7 ?k7 ?a8 ?l8 ?c8 ?k8 ?a9 ?l9 ?c9 ?k9 ?a10 ?l10 ?c10 ?k10 ?a11 ?l11 ?c11 ?k11 ?a12 ?l12 ?c12 ?k12 ?a13 ?l13 ?c13 ?k13 ?a14 ?l14 ?c14 ?k14 ?a15 ?l15 ?c15 ?k15 ?a16 ?l16 ?c16 ?k16 ?a17 ?l17 ?c17 ?k17 ?a18 ?l18 ?c18 ?k18 ?a19 ?l19 ?c19 ?k19 ?a20 ?l20 ?c20 ?k20 ?a21 ?l21 ?c21 ?k21 ?z_bool ?z_int ?z_isinstance ?z_len ?z_list ?z_min ?z_range ?z_str ?z_tuple ?ea0 ?el0 ?es0 ?eg0 ?eh0 ?en0 ?ei0 ?et0 ?em0 ?eo0 ?ej0 ?ek0 ?eb0 ?ey0 ?ed0 ?ec0 ?ez0
    (case a0 => k_is)
    (case l0 => k_is)
    (case c0 => k_is)
    (case k0 => k_is)
    (case a1 => k_is)
    (case l1 => k_is)
    (case c1 => k_is)
    (case k1 => k_is)
    (case a2 => k_is)
    (case l2 => k_is)
    (case c2 => k_is)
    (case k2 => k_is)
    (case a3 => k_is)
    (case l3 => k_is)
    (case c3 => k_is)
    (case k3 => k_is)
    (case a4 => k_is)
    (case l4 => k_is)
    (case c4 => k_is)
    (case k4 => k_is)
    (case a5 => k_is)
    (case l5 => k_is)
    (case c5 => k_is)
    (case k5 => k_is)
    (case a6 => k_is)
    (case l6 => k_is)
    (case c6 => k_is)
    (case k6 => k_is)
    (case a7 => k_is)
    (case l7 => k_is)
    (case c7 => k_is)
    (case k7 => k_is)
    (case a8 => k_is)
    (case l8 => k_is)
    (case c8 => k_is)
    (case k8 => k_is)
    (case a9 => k_is)
    (case l9 => k_is)
    (case c9 => k_is)
    (case k9 => k_is)
    (case a10 => k_is)
    (case l10 => k_is)
    (case c10 => k_is)
    (case k10 => k_is)
    (case a11 => k_is)
    (case l11 => k_is)
    (case c11 => k_is)
    (case k11 => k_is)
    (case a12 => k_is)
    (case l12 => k_is)
    (case c12 => k_is)
    (case k12 => k_is)
    (case a13 => k_is)
    (case l13 => k_is)
    (case c13 => k_is)
    (case k13 => k_is)
    (case a14 => k_is)
    (case l14 => k_is)
    (case c14 => k_is)
    (case k14 => k_is)
    (case a15 => k_is)
    (case l15 => k_is)
    (case c15 => k_is)
    (case k15 => k_is)
    (case a16 => k_is)
    (case l16 => k_is)
    (case c16 => k_is)
    (case k16 => k_is)
    (case a17 => k_is)
    (case l17 => k_is)
    (case c17 => k_is)
    (case k17 => k_is)
    (case a18 => k_is)
    (case l18 => k_is)
    (case c18 => k_is)
    (case k18 => k_is)
    (case a19 => k_is)
    (case l19 => k_is)
    (case c19 => k_is)
    (case k19 => k_is)
    (case a20 => k_is)
    (case l20 => k_is)
    (case c20 => k_is)
    (case k20 => k_is)
    (case a21 => k_is)
    (case l21 => k_is)
    (case c21 => k_is)
    (case k21 => k_is)
    (case z_bool => k_is)
    (case z_int => k_is)
    (case z_isinstance => k_is)
    (case z_len => k_is)
    (case z_list => k_is)
    (case z_min => k_is)
    (case z_range => k_is)
    (case z_str => k_is)
    (case z_tuple => k_is)
    (case ea0 => k_is)
    (case el0 => k_is)
    (case es0 => k_is)
    (case eg0 => k_is)
    (case eh0 => k_is)
    (case en0 => k_is)
    (case ei0 => k_is)
    (case et0 => k_is)
    (case em0 => k_is)
    (case eo0 => k_is)
    (case ej0 => k_is)
    (case ek0 => k_is)
    (case eb0 => k_is)
    (case ey0 => k_is)
    (case ed0 => k_is)
    (case ec0 => k_is)
    (case ez0 => first | rfl | k_is)
