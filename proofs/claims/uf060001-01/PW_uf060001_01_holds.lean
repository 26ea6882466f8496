import PyProof.Rows.All
import Wide.All
import OpenK.AllK
import Wide.FinOn
import PyProof.P3Statements
import PyProof.P3Eq
import PyProof.CompFree
import PyProof.Cells
import PyProof.ForAny
import PyProof.Rows.Top
import KE.IntBitsLaws
import PySem.Challenge.RW_uf060001_01
/-! A small language of my own: plain values, an abstract heap of lists and instances, an evaluator. -/
set_option autoImplicit false
namespace Mini
open PySem

inductive V where
  | none
  | bool (b : Bool)
  | int (i : Int)
  | str (s : Str)
  | tup (l : List V)
  | obj (n : Nat)
  | ty (t : Nat)
  | frz (l : List Int)
  deriving Inhabited

inductive O where
  | list (l : List V)
  | inst (c : Nat) (d : Nat)
  | ns (l : List (Nat × V))
  | exc (c : Nat)
  deriving Inhabited

abbrev H := List O
abbrev L := List (Option V)

inductive Bop where | add | sub | mul | fdiv | mod | pow
  deriving DecidableEq, Inhabited
inductive Cop where | eq | ne | lt | le | gt | ge | is | isnot | mem | nmem
  deriving DecidableEq, Inhabited
inductive Blt where | len | max | min | sorted | int | list | sum | isinstance
  deriving DecidableEq, Inhabited
inductive Mth where | append | pop | index
  deriving DecidableEq, Inhabited

mutual
inductive Ex where
  | lit (v : V)
  | var (i : Nat)
  | ty (t : Nat)
  | bin (op : Bop) (a b : Ex)
  | neg (a : Ex)
  | not (a : Ex)
  | and (a b : Ex)
  | or (a b : Ex)
  | cmp (a : Ex) (r : Ch)
  | ife (c a b : Ex)
  | tup (es : Es)
  | lst (es : Es)
  | idx (a i : Ex)
  | slc (a : Ex) (lo hi st : Oe)
  | comp (elt : Ex) (tg : Nat) (it : It) (ifs : Es)
  | call (f : Nat) (as : Es)
  | blt (b : Blt) (as : Es)
  | mth (m : Mth) (o : Ex) (as : Es)
  | ucall (m : Nat) (o : Ex) (as : Es)
  | attr (o : Ex) (a : Nat)
  | new (c : Nat) (as : Es)
inductive Es where
  | nil
  | cons (e : Ex) (es : Es)
inductive Ch where
  | one (op : Cop) (b : Ex)
  | more (op : Cop) (b : Ex) (r : Ch)
inductive Oe where
  | no
  | yes (e : Ex)
inductive It where
  | ex (e : Ex)
  | rng1 (e : Ex)
  | rng2 (a b : Ex)
  | enum (e : Ex)
end


inductive Tg where
  | one (i : Nat)
  | many (is : List Nat)
  deriving Inhabited

mutual
inductive St where
  | expr (e : Ex)
  | asg (t : Tg) (e : Ex)
  | aset (o : Ex) (a : Nat) (e : Ex)
  | iset (o i e : Ex)
  | ret (e : Ex)
  | ife (c : Ex) (a b : Ss)
  | for_ (t : Tg) (it : It) (b : Ss)
  | whl (c : Ex) (b : Ss)
  | brk
  | pass
  | raise (c : Nat)
  | try_ (b : Ss) (c : Nat) (x : Option Nat) (h : Ss)
inductive Ss where
  | nil
  | cons (s : St) (ss : Ss)
end

/-- what an expression gives: a value, or an exception of a class -/
inductive R (α : Type) where
  | ok (a : α)
  | exc (c : Nat)
  deriving Inhabited

abbrev X (α : Type) := Option (R α × H)

noncomputable def bnd {α β : Type} (x : X α) (f : α → H → X β) : X β :=
  match x with
  | .none => .none
  | some (.ok a, σ) => f a σ
  | some (.exc c, σ) => some (.exc c, σ)

@[simp] theorem bnd_none {α β : Type} (f : α → H → X β) : bnd .none f = .none := rfl
@[simp] theorem bnd_ok {α β : Type} (a : α) (σ : H) (f : α → H → X β) : bnd (some (.ok a, σ)) f = f a σ := rfl
@[simp] theorem bnd_exc {α β : Type} (c : Nat) (σ : H) (f : α → H → X β) : bnd (some (.exc c, σ)) f = some (.exc c, σ) := rfl

noncomputable def okX {α : Type} (a : Option α) (σ : H) : X α := a.map fun v => (.ok v, σ)
@[simp] theorem okX_some {α : Type} (a : α) (σ : H) : okX (some a) σ = some (.ok a, σ) := rfl
@[simp] theorem okX_none {α : Type} (σ : H) : okX (.none : Option α) σ = .none := rfl
/-- a result with its own heap -/
noncomputable def okH {α : Type} (a : Option (α × H)) : X α := a.map fun v => (.ok v.1, v.2)
@[simp] theorem okH_some {α : Type} (a : α) (σ : H) : okH (some (a, σ)) = some (.ok a, σ) := rfl
@[simp] theorem okH_none {α : Type} : okH (.none : Option (α × H)) = .none := rfl

/-- plain data of a value -/
noncomputable def toD : Nat → H → V → Option PyData
  | 0, _, _ => .none
  | f + 1, σ, v => match v with
    | .none => some .none
    | .bool b => some (.bool b)
    | .int i => some (.int i)
    | .str s => if PyData.strOk s then some (.str s) else .none
    | .tup l => (l.mapM (toD f σ)).map .tuple
    | .obj n => match σ[n]? with
      | some (.list l) => (l.mapM (toD f σ)).map .list
      | _ => .none
    | .ty _ => .none
    | .frz _ => .none

noncomputable def eqV (σ : H) (a b : V) : Option Bool :=
  match toD 6 σ a, toD 6 σ b with
  | some x, some y => some (PyData.eqv x y)
  | _, _ => .none

/-- order of tuples of asInts -/
noncomputable def ltT : List V → List V → Option Bool
  | [], [] => some false
  | [], _ :: _ => some true
  | _ :: _, [] => some false
  | .int a :: r, .int b :: s => if a = b then ltT r s else some (decide (a < b))
  | _, _ => .none

noncomputable def truth : V → Option Bool
  | .bool b => some b
  | .none => some false
  | _ => .none

noncomputable def bigE : Nat := 2 ^ 21
noncomputable def Big (a : Int) : Prop := a.natAbs < 2 ^ bigE
noncomputable def mulOK (a b : Int) : Prop := a.natAbs < 2 ^ 64 ∨ b.natAbs < 2 ^ 64 ∨ (Big a ∧ Big b)
noncomputable def lenMax : Nat := 1000000

/-- items of a value that has items -/
noncomputable def items (σ : H) : V → Option (List V)
  | .tup l => some l
  | .frz l => some (l.map .int)
  | .obj n => match σ[n]? with
    | some (.list l) => some l
    | _ => .none
  | _ => .none
noncomputable def listOf (σ : H) : V → Option (List V)
  | .frz l => some (l.map .int)
  | .obj n => match σ[n]? with
    | some (.list l) => some l
    | _ => .none
  | _ => .none

open Classical in
noncomputable def mkList (σ : H) (l : List V) : Option (V × H) := if l.length ≤ lenMax then some (.obj σ.length, σ ++ [.list l]) else .none

open Classical in
noncomputable def binop (op : Bop) (a b : V) (σ : H) : Option (V × H) :=
  match op, a, b with
  | .add, .int x, .int y => some (.int (x + y), σ)
  | .sub, .int x, .int y => some (.int (x - y), σ)
  | .mul, .int x, .int y => if mulOK x y then some (.int (x * y), σ) else .none
  | .fdiv, .int x, .int y => if y ≠ 0 ∧ y.natAbs < 2 ^ 256 then some (.int (x.fdiv y), σ) else .none
  | .mod, .int x, .int y => if y ≠ 0 then some (.int (x.fmod y), σ) else .none
  | .pow, .int x, .int y => if 0 ≤ y ∧ y ≤ 256 ∧ x.natAbs < 2 ^ 64 then some (.int (x ^ y.toNat), σ) else .none
  | .add, .obj m, .obj n => match listOf σ (.obj m), listOf σ (.obj n) with
    | some x, some y => mkList σ (x ++ y)
    | _, _ => .none
  | .add, .tup x, .tup y => if x ≠ [] ∧ y ≠ [] ∧ x.length + y.length ≤ lenMax then some (.tup (x ++ y), σ) else .none
  | .mul, .obj m, .int k => match listOf σ (.obj m) with
    | some [x] => if k = 0 ∨ k = 1 then mkList σ (List.replicate k.toNat x) else .none
    | _ => .none
  | .mul, .str s, .int k => if k = 1 then some (.str s, σ) else if k = 0 then some (.str Str.empty, σ) else .none
  | _, _, _ => .none

noncomputable def isV : V → V → Option Bool
  | .none, .none => some true
  | .bool a, .bool b => some (a == b)
  | .none, .bool _ => some false
  | .int _, .none | .str _, .none | .tup _, .none | .obj _, .none | .bool _, .none => some false
  | .int _, .bool _ => some false
  | _, _ => .none

noncomputable def inV (σ : H) (x : V) (l : List V) : Option Bool :=
  match l.mapM (toD 6 σ), toD 6 σ x with
  | some ds, some d => some (ds.any fun y => PyData.eqv y d)
  | _, _ => .none

noncomputable def cmpop (op : Cop) (a b : V) (σ : H) : Option Bool :=
  match op with
  | .eq => eqV σ a b
  | .ne => (eqV σ a b).map (!·)
  | .lt => match a, b with
    | .int x, .int y => some (decide (x < y))
    | .tup x, .tup y => ltT x y
    | _, _ => .none
  | .gt => match a, b with
    | .int x, .int y => some (decide (y < x))
    | .tup x, .tup y => ltT y x
    | _, _ => .none
  | .le => match a, b with
    | .int x, .int y => some (decide (x ≤ y))
    | _, _ => .none
  | .ge => match a, b with
    | .int x, .int y => some (decide (y ≤ x))
    | _, _ => .none
  | .is => isV a b
  | .isnot => (isV a b).map (!·)
  | .mem => (items σ b).bind (inV σ a)
  | .nmem => ((items σ b).bind (inV σ a)).map (!·)

noncomputable def idxN (i : Int) (n : Nat) : Option Nat :=
  if 0 ≤ i then (if i < n then some i.toNat else .none) else (if 0 ≤ i + n then some (i + n).toNat else .none)

noncomputable def getIdx (σ : H) (a i : V) : Option V :=
  match i with
  | .int k => (items σ a).bind fun l => (idxN k l.length).bind fun j => l[j]?
  | _ => .none

noncomputable def clampS (i : Int) (n : Nat) : Nat := if i < 0 then (i + n).toNat else min i.toNat n
noncomputable def evens {α : Type} : List α → List α
  | [] => []
  | [x] => [x]
  | x :: _ :: r => x :: evens r
/-- a slice with bounds none or asInts, step none or 2 -/
noncomputable def sliceL (l : List V) : V → V → V → Option (List V)
  | .none, .none, .none => some l
  | .int a, .none, .none => some (l.drop (clampS a l.length))
  | .none, .int b, .none => some (l.take (clampS b l.length))
  | .int a, .int b, .none => some ((l.take (clampS b l.length)).drop (clampS a l.length))
  | .int a, .none, .int 2 => some (evens (l.drop (clampS a l.length)))
  | _, _, _ => .none

noncomputable def sliceV (σ : H) (a lo hi st : V) : Option (V × H) :=
  match a with
  | .obj n => match listOf σ (.obj n) with
    | some l => (sliceL l lo hi st).bind (mkList σ)
    | .none => .none
  | .frz l => (sliceL (l.map .int) lo hi st).bind (mkList σ)
  | _ => .none

noncomputable def asInts : List V → Option (List Int)
  | [] => some []
  | .int i :: r => (asInts r).map (i :: ·)
  | _ => .none

/-- keys for the order of sorted: an int, or a tuple of three asInts -/
structure T3 where
  a : Int
  b : Int
  c : Int
  deriving DecidableEq, Inhabited
noncomputable def T3.v (x : T3) : V := .tup [.int x.a, .int x.b, .int x.c]
noncomputable def T3.le (x y : T3) : Bool := decide (x.a < y.a) || (decide (x.a = y.a) && (decide (x.b < y.b) || (decide (x.b = y.b) && decide (x.c ≤ y.c))))
noncomputable def t3s : List V → Option (List T3)
  | [] => some []
  | .tup [.int a, .int b, .int c] :: r => (t3s r).map (⟨a, b, c⟩ :: ·)
  | _ => .none
noncomputable def sortV (l : List V) : Option (List V) :=
  match asInts l with
  | some is => some ((is.mergeSort (fun a b => decide (a ≤ b))).map .int)
  | .none => match t3s l with
    | some ts => some ((ts.mergeSort T3.le).map T3.v)
    | .none => .none

/-- type numbers: 0 int, 1 bool, 2 tuple, 3 list, 4 ValueError, 10 .. 13 SpanError, BadStretch, Twice, Missing, 20 Wood -/
noncomputable def excSub (c t : Nat) : Bool := c == t || (t == 10 && (c == 11 || c == 12 || c == 13)) || t == 4
noncomputable def isiV (σ : H) : V → Nat → Option Bool
  | .int _, t => if t = 0 then some true else if t = 1 ∨ t = 2 ∨ t = 3 then some false else .none
  | .bool _, t => if t = 0 ∨ t = 1 then some true else if t = 2 ∨ t = 3 then some false else .none
  | .tup _, t => if t = 2 then some true else if t = 0 ∨ t = 1 ∨ t = 3 then some false else .none
  | .none, t => if t ≤ 3 then some false else .none
  | .str _, t => if t ≤ 3 then some false else .none
  | .obj n, t => match σ[n]? with
    | some (.list _) => if t = 3 then some true else if t ≤ 2 then some false else .none
    | some (.inst c _) => if t = 20 + c then some true else .none
    | some (.exc c) => if t = 4 ∨ (10 ≤ t ∧ t ≤ 13) then some (excSub c t) else .none
    | _ => .none
  | _, _ => .none

noncomputable def maxI : List Int → Int → Int
  | [], m => m
  | x :: r, m => maxI r (if m < x then x else m)
noncomputable def minI : List Int → Int → Int
  | [], m => m
  | x :: r, m => minI r (if x < m then x else m)

noncomputable def bltV (b : Blt) (as : List V) (σ : H) : Option (V × H) :=
  match b, as with
  | .len, [v] => (items σ v).map fun l => (.int l.length, σ)
  | .max, [.int x, .int y] => some (.int (if x < y then y else x), σ)
  | .min, [.int x, .int y] => some (.int (if y < x then y else x), σ)
  | .max, [.obj n] => match (listOf σ (.obj n)).bind asInts with
    | some (x :: r) => some (.int (maxI r x), σ)
    | _ => .none
  | .min, [.obj n] => match (listOf σ (.obj n)).bind asInts with
    | some (x :: r) => some (.int (minI r x), σ)
    | _ => .none
  | .sorted, [.obj n] => ((listOf σ (.obj n)).bind sortV).bind (mkList σ)
  | .int, [.bool x] => some (.int (if x then 1 else 0), σ)
  | .int, [.int x] => some (.int x, σ)
  | .list, [.obj n] => (listOf σ (.obj n)).bind (mkList σ)
  | .sum, [.obj n] => ((listOf σ (.obj n)).bind asInts).map fun l => (.int l.sum, σ)
  | .isinstance, [v, .ty t] => (isiV σ v t).map fun r => (.bool r, σ)
  | _, _ => .none

noncomputable def setObj (σ : H) (n : Nat) (o : O) : H := σ.set n o

open Classical in
noncomputable def mthV (m : Mth) (o : V) (as : List V) (σ : H) : Option (V × H) :=
  match m, o, as with
  | .append, .obj n, [x] => match listOf σ (.obj n) with
    | some l => if l.length < lenMax then some (.none, setObj σ n (.list (l ++ [x]))) else .none
    | .none => .none
  | .pop, .obj n, [] => match listOf σ (.obj n) with
    | some l => match l.getLast? with
      | some x => some (x, setObj σ n (.list l.dropLast))
      | .none => .none
    | .none => .none
  | _, _, _ => .none

noncomputable def nsOf (σ : H) : V → Option (Nat × List (Nat × V))
  | .obj n => match σ[n]? with
    | some (.inst _ d) => match σ[d]? with
      | some (.ns l) => some (d, l)
      | _ => .none
    | _ => .none
  | _ => .none
noncomputable def nsPut : List (Nat × V) → Nat → V → List (Nat × V)
  | [], a, v => [(a, v)]
  | (b, w) :: r, a, v => if b = a then (b, v) :: r else (b, w) :: nsPut r a v

inductive Mode where | pure | fresh | raw
  deriving DecidableEq, Inhabited

structure Fn where
  ps : List Nat
  size : Nat
  body : Ss
  mode : Mode

/-- the program's tables -/
structure Pg where
  fn : Nat → Option Fn
  mt : Nat → Nat → Option Nat
  init : Nat → Option Nat

mutual
noncomputable def below (n : Nat) : V → Bool
  | .obj m => decide (m < n)
  | .tup l => belows n l
  | _ => true
noncomputable def belows (n : Nat) : List V → Bool
  | [] => true
  | v :: r => below n v && belows n r
end

open Classical in
noncomputable def gc (m : Mode) (σ : H) (x : X V) : X V :=
  match m with
  | .raw => x
  | .pure => match x with
    | some (.ok v, σ') => if σ'.take σ.length = σ ∧ below σ.length v = true then some (.ok v, σ) else .none
    | some (.exc c, σ') => if σ'.take σ.length = σ then some (.exc c, σ) else .none
    | .none => .none
  | .fresh => match x with
    | some (.ok (.obj m), σ') => if σ'.take σ.length = σ then
        (if m < σ.length then some (.ok (.obj m), σ) else match σ'[m]? with
          | some (.list l) => if belows σ.length l = true then some (.ok (.obj σ.length), σ ++ [.list l]) else .none
          | _ => .none)
      else .none
    | _ => .none

inductive Fl where
  | next
  | brk
  | ret (v : V)
  | exc (c : Nat)
  deriving Inhabited
abbrev Y := Option (Fl × L × H)

noncomputable def bndY {α : Type} (x : X α) (ℓ : L) (f : α → H → Y) : Y :=
  match x with
  | .none => .none
  | some (.ok a, σ) => f a σ
  | some (.exc c, σ) => some (.exc c, ℓ, σ)
@[simp] theorem bndY_none {α : Type} (ℓ : L) (f : α → H → Y) : bndY (.none : X α) ℓ f = .none := rfl
@[simp] theorem bndY_ok {α : Type} (a : α) (σ : H) (ℓ : L) (f : α → H → Y) : bndY (some (.ok a, σ)) ℓ f = f a σ := rfl
@[simp] theorem bndY_exc {α : Type} (c : Nat) (σ : H) (ℓ : L) (f : α → H → Y) : bndY (some (.exc c, σ) : X α) ℓ f = some (.exc c, ℓ, σ) := rfl

/-- one statement behind another -/
noncomputable def seqY (x : Y) (f : L → H → Y) : Y :=
  match x with
  | some (.next, ℓ, σ) => f ℓ σ
  | r => r
@[simp] theorem seqY_next (ℓ : L) (σ : H) (f : L → H → Y) : seqY (some (.next, ℓ, σ)) f = f ℓ σ := rfl
@[simp] theorem seqY_ret (v : V) (ℓ : L) (σ : H) (f : L → H → Y) : seqY (some (.ret v, ℓ, σ)) f = some (.ret v, ℓ, σ) := rfl
@[simp] theorem seqY_brk (ℓ : L) (σ : H) (f : L → H → Y) : seqY (some (.brk, ℓ, σ)) f = some (.brk, ℓ, σ) := rfl
@[simp] theorem seqY_exc (c : Nat) (ℓ : L) (σ : H) (f : L → H → Y) : seqY (some (.exc c, ℓ, σ)) f = some (.exc c, ℓ, σ) := rfl
@[simp] theorem seqY_none (f : L → H → Y) : seqY .none f = .none := rfl

noncomputable def setL (ℓ : L) (i : Nat) (v : V) : Option L := if i < ℓ.length then some (ℓ.set i (some v)) else .none
noncomputable def setMany : List Nat → List V → L → Option L
  | [], [], ℓ => some ℓ
  | i :: is, v :: vs, ℓ => (setL ℓ i v).bind (setMany is vs)
  | _, _, _ => .none
noncomputable def setTg (t : Tg) (v : V) (ℓ : L) : Option L :=
  match t with
  | .one i => setL ℓ i v
  | .many _ => .none

/-- what an iterable draws: its items, and what must stay as it is while they are drawn -/
structure Src where
  vs : List V
  keep : H → Prop

open Classical in
noncomputable def compL (body : L → H → X (Option V)) (tg : Nat) (keep : H → Prop) : List V → List V → L → H → X (List V)
  | [], acc, _, σ => some (.ok acc, σ)
  | v :: r, acc, ℓ, σ => match setL ℓ tg v with
    | .none => .none
    | some ℓ' => match body ℓ' σ with
      | some (.ok y, σ') => if keep σ' ∧ acc.length < lenMax then compL body tg keep r (match y with | some w => acc ++ [w] | .none => acc) ℓ' σ' else .none
      | _ => .none

open Classical in
noncomputable def forL (body : L → H → Y) (t : Tg) (keep : H → Prop) : List V → L → H → Y
  | [], ℓ, σ => some (.next, ℓ, σ)
  | v :: r, ℓ, σ => match setTg t v ℓ with
    | .none => .none
    | some ℓ' => match body ℓ' σ with
      | some (.next, ℓ2, σ2) => if keep σ2 then forL body t keep r ℓ2 σ2 else .none
      | some (.brk, ℓ2, σ2) => some (.next, ℓ2, σ2)
      | some (.ret v, ℓ2, σ2) => some (.ret v, ℓ2, σ2)
      | _ => .none

noncomputable def whileL (test : L → H → X V) (body : L → H → Y) : Nat → L → H → Y
  | 0, _, _ => .none
  | n + 1, ℓ, σ => match test ℓ σ with
    | some (.ok v, σ1) => match truth v with
      | some true => match body ℓ σ1 with
        | some (.next, ℓ2, σ2) => whileL test body n ℓ2 σ2
        | some (.brk, ℓ2, σ2) => some (.next, ℓ2, σ2)
        | some (.ret v, ℓ2, σ2) => some (.ret v, ℓ2, σ2)
        | _ => .none
      | some false => some (.next, ℓ, σ1)
      | .none => .none
    | _ => .none
noncomputable def whileMax : Nat := 2 ^ 16

/-- how calls are answered -/
structure Cl where
  pg : Pg
  call : Nat → List V → H → X V

noncomputable def rngL (a b : Int) : List V := (List.range (b - a).toNat).map fun k => V.int (a + (k : Nat))
noncomputable def enumL (l : List V) : List V := l.zipIdx.map fun p => V.tup [.int p.2, p.1]

mutual
noncomputable def evalE (C : Cl) : Ex → L → H → X V
  | .lit v, _, σ => some (.ok v, σ)
  | .var i, ℓ, σ => okX (ℓ[i]?.join) σ
  | .ty t, _, σ => some (.ok (.ty t), σ)
  | .bin op a b, ℓ, σ => bnd (evalE C a ℓ σ) fun x σ1 => bnd (evalE C b ℓ σ1) fun y σ2 => okH (binop op x y σ2)
  | .neg a, ℓ, σ => bnd (evalE C a ℓ σ) fun x σ1 => match x with
    | .int i => some (.ok (.int (-i)), σ1)
    | _ => .none
  | .not a, ℓ, σ => bnd (evalE C a ℓ σ) fun x σ1 => okX ((truth x).map fun b => V.bool (!b)) σ1
  | .and a b, ℓ, σ => bnd (evalE C a ℓ σ) fun x σ1 => match truth x with
    | some true => evalE C b ℓ σ1
    | some false => some (.ok x, σ1)
    | .none => .none
  | .or a b, ℓ, σ => bnd (evalE C a ℓ σ) fun x σ1 => match truth x with
    | some true => some (.ok x, σ1)
    | some false => evalE C b ℓ σ1
    | .none => .none
  | .cmp a r, ℓ, σ => bnd (evalE C a ℓ σ) fun x σ1 => evalCh C x r ℓ σ1
  | .ife c a b, ℓ, σ => bnd (evalE C c ℓ σ) fun x σ1 => match truth x with
    | some true => evalE C a ℓ σ1
    | some false => evalE C b ℓ σ1
    | .none => .none
  | .tup es, ℓ, σ => bnd (evalEs C es ℓ σ) fun vs σ1 => if vs.length ≤ lenMax then some (.ok (.tup vs), σ1) else .none
  | .lst es, ℓ, σ => bnd (evalEs C es ℓ σ) fun vs σ1 => okH (mkList σ1 vs)
  | .idx a i, ℓ, σ => bnd (evalE C a ℓ σ) fun x σ1 => bnd (evalE C i ℓ σ1) fun y σ2 => okX (getIdx σ2 x y) σ2
  | .slc a lo hi st, ℓ, σ => bnd (evalE C a ℓ σ) fun x σ1 => bnd (evalOe C lo ℓ σ1) fun l σ2 => bnd (evalOe C hi ℓ σ2) fun u σ3 => bnd (evalOe C st ℓ σ3) fun s σ4 =>
      okH (sliceV σ4 x l u s)
  | .comp elt tg it ifs, ℓ, σ => bnd (evalIt C it ℓ σ) fun src σ1 =>
      bnd (compL (fun ℓ' σ' => bnd (evalIfs C ifs ℓ' σ') fun b σ2 => if b then bnd (evalE C elt ℓ' σ2) fun v σ3 => some (.ok (some v), σ3) else some (.ok .none, σ2)) tg src.keep src.vs [] ℓ σ1) fun vs σ2 =>
        some (.ok (.obj σ2.length), σ2 ++ [.list vs])
  | .call f as, ℓ, σ => bnd (evalEs C as ℓ σ) fun vs σ1 => C.call f vs σ1
  | .blt b as, ℓ, σ => bnd (evalEs C as ℓ σ) fun vs σ1 => okH (bltV b vs σ1)
  | .mth m o as, ℓ, σ => bnd (evalE C o ℓ σ) fun x σ1 => bnd (evalEs C as ℓ σ1) fun vs σ2 => okH (mthV m x vs σ2)
  | .ucall m o as, ℓ, σ => bnd (evalE C o ℓ σ) fun x σ1 => match x with
    | .obj n => match σ1[n]? with
      | some (.inst c _) => match C.pg.mt c m with
        | some f => bnd (evalEs C as ℓ σ1) fun vs σ2 => C.call f (x :: vs) σ2
        | .none => .none
      | _ => .none
    | _ => .none
  | .attr o a, ℓ, σ => bnd (evalE C o ℓ σ) fun x σ1 => okX ((nsOf σ1 x).bind fun p => p.2.lookup a) σ1
  | .new c as, ℓ, σ => bnd (evalEs C as ℓ σ) fun vs σ1 => match C.pg.init c with
    | some f => bnd (C.call f (.obj (σ1.length + 1) :: vs) (σ1 ++ [.ns [], .inst c σ1.length])) fun r σ2 => match r with
      | .none => some (.ok (.obj (σ1.length + 1)), σ2)
      | _ => .none
    | .none => .none
noncomputable def evalEs (C : Cl) : Es → L → H → X (List V)
  | .nil, _, σ => some (.ok [], σ)
  | .cons e es, ℓ, σ => bnd (evalE C e ℓ σ) fun v σ1 => bnd (evalEs C es ℓ σ1) fun vs σ2 => some (.ok (v :: vs), σ2)
noncomputable def evalCh (C : Cl) (x : V) : Ch → L → H → X V
  | .one op b, ℓ, σ => bnd (evalE C b ℓ σ) fun y σ1 => okX ((cmpop op x y σ1).map V.bool) σ1
  | .more op b r, ℓ, σ => bnd (evalE C b ℓ σ) fun y σ1 => match cmpop op x y σ1 with
    | some true => evalCh C y r ℓ σ1
    | some false => some (.ok (.bool false), σ1)
    | .none => .none
noncomputable def evalOe (C : Cl) : Oe → L → H → X V
  | .no, _, σ => some (.ok .none, σ)
  | .yes e, ℓ, σ => evalE C e ℓ σ
noncomputable def evalIt (C : Cl) : It → L → H → X Src
  | .ex e, ℓ, σ => bnd (evalE C e ℓ σ) fun x σ1 => match x with
    | .tup l => some (.ok ⟨l, fun _ => True⟩, σ1)
    | .frz l => some (.ok ⟨l.map .int, fun _ => True⟩, σ1)
    | .obj n => match σ1[n]? with
      | some (.list l) => some (.ok ⟨l, fun σ' => σ'[n]? = some (.list l)⟩, σ1)
      | _ => .none
    | _ => .none
  | .rng1 e, ℓ, σ => bnd (evalE C e ℓ σ) fun x σ1 => match x with
    | .int b => if -lenMax ≤ b ∧ b ≤ lenMax then some (.ok ⟨rngL 0 b, fun _ => True⟩, σ1) else .none
    | _ => .none
  | .rng2 a b, ℓ, σ => bnd (evalE C a ℓ σ) fun x σ1 => bnd (evalE C b ℓ σ1) fun y σ2 => match x, y with
    | .int a, .int b => if (-lenMax ≤ a ∧ a ≤ lenMax) ∧ (-lenMax ≤ b ∧ b ≤ lenMax) then some (.ok ⟨rngL a b, fun _ => True⟩, σ2) else .none
    | _, _ => .none
  | .enum _, _, _ => .none
noncomputable def evalIfs (C : Cl) : Es → L → H → X Bool
  | .nil, _, σ => some (.ok true, σ)
  | .cons e es, ℓ, σ => bnd (evalE C e ℓ σ) fun v σ1 => match truth v with
    | some true => evalIfs C es ℓ σ1
    | some false => some (.ok false, σ1)
    | .none => .none
end

mutual
noncomputable def exec (C : Cl) : St → L → H → Y
  | .expr e, ℓ, σ => bndY (evalE C e ℓ σ) ℓ fun _ σ1 => some (.next, ℓ, σ1)
  | .asg t e, ℓ, σ => bndY (evalE C e ℓ σ) ℓ fun v σ1 => (setTg t v ℓ).map fun ℓ' => (Fl.next, ℓ', σ1)
  | .aset _ _ _, _, _ => .none
  | .iset _ _ _, _, _ => .none
  | .ret e, ℓ, σ => bndY (evalE C e ℓ σ) ℓ fun v σ1 => some (.ret v, ℓ, σ1)
  | .ife c a b, ℓ, σ => bndY (evalE C c ℓ σ) ℓ fun v σ1 => match truth v with
    | some true => execs C a ℓ σ1
    | some false => execs C b ℓ σ1
    | .none => .none
  | .for_ (.one t) it b, ℓ, σ => bndY (evalIt C it ℓ σ) ℓ fun src σ1 => forL (execs C b) (.one t) src.keep src.vs ℓ σ1
  | .for_ (.many _) _ _, _, _ => .none
  | .whl c b, ℓ, σ => whileL (evalE C c) (execs C b) whileMax ℓ σ
  | .brk, ℓ, σ => some (.brk, ℓ, σ)
  | .pass, ℓ, σ => some (.next, ℓ, σ)
  | .raise c, ℓ, σ => some (.exc c, ℓ, σ)
  | .try_ _ _ _ _, _, _ => .none
noncomputable def execs (C : Cl) : Ss → L → H → Y
  | .nil, ℓ, σ => some (.next, ℓ, σ)
  | .cons s ss, ℓ, σ => seqY (exec C s ℓ σ) fun ℓ1 σ1 => execs C ss ℓ1 σ1
end

noncomputable def retX (y : Y) : X V :=
  match y with
  | some (.ret v, _, σ) => some (.ok v, σ)
  | some (.next, _, σ) => some (.ok .none, σ)
  | some (.exc c, _, σ) => some (.exc c, σ)
  | _ => .none
@[simp] theorem retX_ret (v : V) (ℓ : L) (σ : H) : retX (some (.ret v, ℓ, σ)) = some (.ok v, σ) := rfl
@[simp] theorem retX_next (ℓ : L) (σ : H) : retX (some (.next, ℓ, σ)) = some (.ok .none, σ) := rfl
@[simp] theorem retX_exc (c : Nat) (ℓ : L) (σ : H) : retX (some (.exc c, ℓ, σ)) = some (.exc c, σ) := rfl
@[simp] theorem retX_none : retX .none = .none := rfl

noncomputable def startL (F : Fn) (as : List V) : Option L := setMany F.ps as (List.replicate F.size .none)

noncomputable def callF (pg : Pg) : Nat → Nat → List V → H → X V
  | 0, _, _, _ => .none
  | d + 1, f, as, σ => match pg.fn f with
    | .none => .none
    | some F => match startL F as with
      | .none => .none
      | some ℓ => gc F.mode σ (retX (execs ⟨pg, callF pg d⟩ F.body ℓ σ))

end Mini

/-! From the model's syntax to the small language. -/
set_option autoImplicit false
namespace Mini
open PySem

structure Tabs where
  fns : List (Str × Nat)
  tys : List (Str × Nat)
  blts : List (Str × Blt)
  cls : List (Str × Nat)
  meths : List (Str × Nat)
  attrs : List (Str × Nat)
  excs : List (Str × Nat)

structure CEnv where
  names : List (Str × NameKind)
  slots : List (Str × Nat)
  next : Nat

noncomputable def cConst : Const → Option V
  | .none => some .none
  | .bool b => some (.bool b)
  | .int i => some (.int i)
  | .str s => some (.str s)
  | _ => .none

noncomputable def cOp : Operator → Option Bop
  | .Add => some .add
  | .Sub => some .sub
  | .Mult => some .mul
  | .FloorDiv => some .fdiv
  | .Mod => some .mod
  | .Pow => some .pow
  | _ => .none

noncomputable def cCop : CmpOp → Cop
  | .Eq => .eq | .NotEq => .ne | .Lt => .lt | .LtE => .le | .Gt => .gt | .GtE => .ge | .Is => .is | .IsNot => .isnot | .In => .mem | .NotIn => .nmem

noncomputable def cVar (c : CEnv) (x : Str) : Option Nat :=
  match c.names.lookup x with
  | some .local | some .cell => if x == ("__debug__" : Str) then .none else c.slots.lookup x
  | _ => .none

noncomputable def cName (T : Tabs) (c : CEnv) (x : Str) : Option Ex :=
  match c.names.lookup x with
  | some .local | some .cell => (cVar c x).map .var
  | some .globalImplicit => if x == ("__debug__" : Str) then .none else (T.tys.lookup x).map .ty
  | _ => .none

noncomputable def isGlob (c : CEnv) (x : Str) : Bool := c.names.lookup x == some .globalImplicit && !(x == ("__debug__" : Str))

/-- the names of a comprehension's block as the model relabels them -/
noncomputable def compNames (c : CEnv) (sc : Scope) : List (Str × NameKind) :=
  sc.names.map fun (n, k) => if k == .free && c.names.lookup n == some .cell then (n, .cell) else (n, k)
noncomputable def compSlots (c : CEnv) (sc : Scope) : List (Str × Nat) :=
  ((sc.names.filter fun p => p.2 == .local).zipIdx.map fun p => (p.1.1, c.next + p.2)) ++
  (sc.names.filterMap fun p => if p.2 == .free && c.names.lookup p.1 == some .cell then (c.slots.lookup p.1).map fun j => (p.1, j) else .none)
noncomputable def compC (c : CEnv) (sc : Scope) : CEnv := ⟨compNames c sc, compSlots c sc, c.next + (sc.names.filter fun p => p.2 == .local).length⟩

/-- a comprehension's block is as it must be: names once, no cells of its own, what it takes from outside is a cell there -/
noncomputable def compOK (c : CEnv) (sc : Scope) : Bool :=
  (sc.kind == .function) && !sc.isGenerator && !sc.isCoroutine && decide (sc.names.map (·.1)).Nodup && sc.names.all (fun p => p.2 != .cell && (p.2 != .free || c.names.lookup p.1 == some .cell))

noncomputable def boolEx (op : BoolOp) (a b : Ex) : Ex := match op with | .And => .and a b | .Or => .or a b

/-- a call of a name -/
noncomputable def cCall (T : Tabs) (c : CEnv) (f : Str) (as : Es) : Option Ex :=
  if isGlob c f then
    match T.fns.lookup f with
    | some n => some (.call n as)
    | .none => match T.blts.lookup f with
      | some b => some (.blt b as)
      | .none => match T.cls.lookup f with
        | some n => some (.new n as)
        | .none => .none
  else .none

noncomputable def sAppend : Str := "append"
noncomputable def sPop : Str := "pop"
noncomputable def sIndex : Str := "index"
noncomputable def sRange : Str := "range"
noncomputable def sEnum : Str := "enumerate"

noncomputable def cMeth (T : Tabs) (m : Str) (o : Ex) (as : Es) : Option Ex :=
  if m == sAppend then some (.mth .append o as)
  else if m == sPop then some (.mth .pop o as)
  else if m == sIndex then some (.mth .index o as)
  else (T.meths.lookup m).map fun k => .ucall k o as

noncomputable def isCall : Expr → Bool
  | .Call .. => true
  | _ => false

noncomputable def nameIs : Expr → Option Str
  | .Name x _ => some x
  | _ => .none

mutual
noncomputable def cE (T : Tabs) : CEnv → Expr → Option Ex
  | _, .Constant k _ _ => (cConst k).map .lit
  | c, .Name x _ => cName T c x
  | c, .BinOp l op r _ => match cE T c l, cOp op, cE T c r with
    | some a, some o, some b => some (.bin o a b)
    | _, _, _ => .none
  | c, .UnaryOp op x _ => match op, cE T c x with
    | .USub, some a => some (.neg a)
    | .Not, some a => some (.not a)
    | _, _ => .none
  | c, .BoolOp op vs _ => cB T op c vs
  | c, .Compare l ops cs _ => match cE T c l, cCh T c ops cs with
    | some a, some r => some (.cmp a r)
    | _, _ => .none
  | c, .IfExp t b o _ => match cE T c t, cE T c b, cE T c o with
    | some x, some y, some z => some (.ife x y z)
    | _, _, _ => .none
  | c, .Tuple es _ _ => (cEs T c es).map .tup
  | c, .List es _ => (cEs T c es).map .lst
  | c, .Subscript v s _ => match cE T c v, cS T c s, cE T c s with
    | some a, some (x, y, z), _ => some (.slc a x y z)
    | some a, .none, some i => some (.idx a i)
    | _, _, _ => .none
  | c, .ListComp elt gens sc _ => match cGen T sc c gens, cE T (compC c sc) elt with
    | some (tg, it, ifs), some e => if compOK c sc then some (.comp e tg it ifs) else .none
    | _, _ => .none
  | c, .Call f as ks pos => match ks, cEs T c as with
    | [], some xs => if as.length < 20 then cF T xs pos c f else .none
    | _, _ => .none
  | c, .Attribute o a _ => match cE T c o, T.attrs.lookup a with
    | some x, some k => if isCall o then .none else some (.attr x k)
    | _, _ => .none
  | _, _ => .none
noncomputable def cF (T : Tabs) (xs : Es) (pos : Pos) : CEnv → Expr → Option Ex
  | c, .Name f _ => cCall T c f xs
  | c, .Attribute o m p => match cE T c o with
    | some x => if p.endLine == pos.line && !isCall o then cMeth T m x xs else .none
    | .none => .none
  | _, _ => .none
noncomputable def cS (T : Tabs) : CEnv → Expr → Option (Oe × Oe × Oe)
  | c, .Slice lo hi st _ => match cO T c lo, cO T c hi, cO T c st with
    | some x, some y, some z => some (x, y, z)
    | _, _, _ => .none
  | _, _ => .none
noncomputable def cO (T : Tabs) : CEnv → Option Expr → Option Oe
  | _, .none => some .no
  | c, some e => (cE T c e).map .yes
noncomputable def cB (T : Tabs) (op : BoolOp) : CEnv → List Expr → Option Ex
  | _, [] => .none
  | c, [e] => cE T c e
  | c, e :: r => match cE T c e, cB T op c r with
    | some a, some b => some (boolEx op a b)
    | _, _ => .none
noncomputable def cEs (T : Tabs) : CEnv → List Expr → Option Es
  | _, [] => some .nil
  | c, e :: r => match cE T c e, cEs T c r with
    | some a, some b => some (.cons a b)
    | _, _ => .none
noncomputable def cCh (T : Tabs) : CEnv → List CmpOp → List Expr → Option Ch
  | c, [op], [e] => (cE T c e).map fun a => .one (cCop op) a
  | c, op :: ops, e :: es => match cE T c e, cCh T c ops es with
    | some a, some r => some (.more (cCop op) a r)
    | _, _ => .none
  | _, _, _ => .none
noncomputable def cR (T : Tabs) : CEnv → Expr → Option It
  | c, .Call f as ks _ => match ks, nameIs f, cEs T c as with
    | [], some f, some (.cons a .nil) => if isGlob c f then (if f == sRange then some (.rng1 a) else if f == sEnum then some (.enum a) else .none) else .none
    | [], some f, some (.cons a (.cons b .nil)) => if isGlob c f && f == sRange then some (.rng2 a b) else .none
    | _, _, _ => .none
  | _, _ => .none
noncomputable def cGen (T : Tabs) (sc : Scope) : CEnv → List Comprehension → Option (Nat × It × Es)
  | c, [⟨tg, iter, ifs, async⟩] => match nameIs tg, cR T c iter, cE T c iter, cEs T (compC c sc) ifs with
    | some x, r, e, some fs => if async = 0 ∧ (compC c sc).names.lookup x = some .local then (match cVar (compC c sc) x, r, e with
        | some i, some it, _ => some (i, it, fs)
        | some i, .none, some a => some (i, .ex a, fs)
        | _, _, _ => .none) else .none
    | _, _, _, _ => .none
  | _, _ => .none
end

noncomputable def cVars (c : CEnv) : List Expr → Option (List Nat)
  | [] => some []
  | e :: r => match nameIs e with
    | some x => match cVar c x, cVars c r with
      | some i, some is => some (i :: is)
      | _, _ => .none
    | .none => .none

/-- a target of names -/
noncomputable def cTg (c : CEnv) : Expr → Option Tg
  | .Name x _ => (cVar c x).map .one
  | .Tuple es _ _ => (cVars c es).map .many
  | _ => .none

noncomputable def cAsg (T : Tabs) (c : CEnv) (v : Ex) : List Expr → Option St
  | [.Name x _] => (cVar c x).map fun i => .asg (.one i) v
  | [.Tuple es _ _] => (cVars c es).map fun is => .asg (.many is) v
  | [.Attribute o a _] => match cE T c o, T.attrs.lookup a with
    | some x, some k => some (.aset x k v)
    | _, _ => .none
  | [.Subscript o i _] => match cE T c o, cE T c i with
    | some x, some k => some (.iset x k v)
    | _, _ => .none
  | _ => .none

/-- «raise C('text')» -/
noncomputable def cRaise (T : Tabs) (c : CEnv) : Option Expr → Option Expr → Option St
  | some (.Call (.Name f _) [.Constant (.str _) _ _] [] _), .none => if isGlob c f then (T.excs.lookup f).map .raise else .none
  | _, _ => .none

noncomputable def cIter (T : Tabs) (c : CEnv) (e : Expr) : Option It :=
  match cR T c e with
  | some it => some it
  | .none => (cE T c e).map .ex

/-- the head of the one handler: its class and its name -/
noncomputable def cHead (T : Tabs) (c : CEnv) : Option Expr → Option Str → Option (Nat × Option Nat)
  | some (.Name f _), x => if isGlob c f then (match T.excs.lookup f, x with
      | some t, .none => some (t, .none)
      | some t, some n => (cVar c n).map fun i => (t, some i)
      | .none, _ => .none) else .none
  | _, _ => .none

noncomputable def isComp : Expr → Bool
  | .ListComp .. => true
  | .SetComp .. => true
  | .DictComp .. => true
  | _ => false

mutual
noncomputable def cSt (T : Tabs) (c : CEnv) : Stmt → Option St
  | .Expr e _ => if isComp e then .none else (cE T c e).map .expr
  | .Assign ts v _ => match cE T c v with
    | some a => cAsg T c a ts
    | .none => .none
  | .Return v _ => match v with
    | some e => (cE T c e).map .ret
    | .none => some (.ret (.lit .none))
  | .If t a b _ => match cE T c t, cSs T c a, cSs T c b with
    | some x, some y, some z => some (.ife x y z)
    | _, _, _ => .none
  | .For t i b o _ => match cTg c t, cIter T c i, cSs T c b, o with
    | some x, some y, some z, [] => some (.for_ x y z)
    | _, _, _, _ => .none
  | .While t b o _ => match cE T c t, cSs T c b, o with
    | some x, some y, [] => some (.whl x y)
    | _, _, _ => .none
  | .Break _ => some .brk
  | .Pass _ => some .pass
  | .Raise e k _ => cRaise T c e k
  | .Try b hs o f _ => match cSs T c b, cHs T c hs, o, f with
    | some x, some (t, n, y), [], [] => some (.try_ x t n y)
    | _, _, _, _ => .none
  | _ => .none
noncomputable def cSs (T : Tabs) (c : CEnv) : List Stmt → Option Ss
  | [] => some .nil
  | s :: r => match cSt T c s, cSs T c r with
    | some a, some b => some (.cons a b)
    | _, _ => .none
noncomputable def cHs (T : Tabs) (c : CEnv) : List ExceptHandler → Option (Nat × Option Nat × Ss)
  | [.ExceptHandler t n b _] => match cHead T c t n, cSs T c b with
    | some (k, x), some y => some (k, x, y)
    | _, _ => .none
  | _ => .none
end

noncomputable def ownOf (names : List (Str × NameKind)) : List (Str × NameKind) := names.filter fun p => p.2 == .local || p.2 == .cell
noncomputable def slotsOf (names : List (Str × NameKind)) : List (Str × Nat) := (ownOf names).zipIdx.map fun p => (p.1.1, p.2)
noncomputable def fnC (sc : Scope) : CEnv := ⟨sc.names, slotsOf sc.names, (ownOf sc.names).length⟩

noncomputable def cFn (T : Tabs) (mode : Mode) (extra : Nat) (as : Arguments) (sc : Scope) (body : List Stmt) : Option Fn :=
  match (as.args.map (·.arg)).mapM (fun x => (slotsOf sc.names).lookup x), cSs T (fnC sc) body with
  | some ps, some b => some ⟨ps, (ownOf sc.names).length + extra, b, mode⟩
  | _, _ => .none

end Mini

set_option autoImplicit false
namespace Mini
open PySem
noncomputable def fnNames : List (Str × Nat) := [(Str.ofString "meet", 0), (Str.ofString "need_whole", 1), (Str.ofString "need_span", 2), (Str.ofString "stretch_of", 3), (Str.ofString "gaps_of", 4), (Str.ofString "clumps_of", 5), (Str.ofString "deepest_of", 6), (Str.ofString "height_of", 7), (Str.ofString "made", 8), (Str.ofString "balanced", 9), (Str.ofString "with_one", 10), (Str.ofString "least_of", 11), (Str.ofString "without", 12), (Str.ofString "has", 13), (Str.ofString "walked", 14), (Str.ofString "asked", 15), (Str.ofString "_law_at", 16), (Str.ofString "_law_made", 17), (Str.ofString "_wall", 18), (Str.ofString "_law_thing", 19), (Str.ofString "_law_number", 20), (Str.ofString "_law_good", 21), (Str.ofString "_law_called", 22), (Str.ofString "_law_named", 23), (Str.ofString "_law_word", 24), (Str.ofString "_law_is_int", 25), (Str.ofString "_law_tuple_is", 26), (Str.ofString "_law_list_is", 27), (Str.ofString "_law_row", 28), (Str.ofString "_law_ask", 29), (Str.ofString "_law_gaps", 30), (Str.ofString "_law_clump", 31), (Str.ofString "_law_triple", 32), (Str.ofString "_law_over", 33), (Str.ofString "_law_run", 34), (Str.ofString "_law_near", 35), (Str.ofString "_law_picked", 36), (Str.ofString "_law_big", 37), (Str.ofString "_law_deeds", 38), (Str.ofString "_law_behind", 39), (Str.ofString "_law_done", 40), (Str.ofString "_law_spots", 41), (Str.ofString "_law_box", 42), (Str.ofString "_law_under", 43), (Str.ofString "_law_stands", 44), (Str.ofString "_law_do", 45), (Str.ofString "_law_told", 46), (Str.ofString "_law_spot", 47), (Str.ofString "_law_looked", 48), (Str.ofString "_law_least", 49), (Str.ofString "_law_quick", 50), (Str.ofString "_law_parts", 51), (Str.ofString "_law_deepest", 52), (Str.ofString "_law_clumps", 53), (Str.ofString "_law_gaps_of", 54), (Str.ofString "_law_hang", 55), (Str.ofString "_law_rest", 56), (Str.ofString "_law_balanced", 57), (Str.ofString "_law_deep", 58), (Str.ofString "_law_own", 59), (Str.ofString "law", 60)]
noncomputable def methNames : List (Str × Nat) := [(Str.ofString "__init__", 0), (Str.ofString "put", 1), (Str.ofString "take", 2), (Str.ofString "keeps", 3), (Str.ofString "listed", 4), (Str.ofString "total", 5), (Str.ofString "meeting", 6), (Str.ofString "holding", 7), (Str.ofString "looked", 8), (Str.ofString "gaps", 9), (Str.ofString "clumps", 10), (Str.ofString "deepest", 11), (Str.ofString "branch", 12), (Str.ofString "height", 13), (Str.ofString "boxes", 14)]
noncomputable def tyNames : List (Str × Nat) := [(Str.ofString "int", 0), (Str.ofString "bool", 1), (Str.ofString "tuple", 2), (Str.ofString "list", 3), (Str.ofString "ValueError", 4)]
noncomputable def excNames : List (Str × Nat) := [(Str.ofString "ValueError", 4), (Str.ofString "SpanError", 10), (Str.ofString "BadStretch", 11), (Str.ofString "Twice", 12), (Str.ofString "Missing", 13)]
noncomputable def bltNames : List (Str × Blt) := [(Str.ofString "len", .len), (Str.ofString "max", .max), (Str.ofString "min", .min), (Str.ofString "sorted", .sorted), (Str.ofString "int", .int), (Str.ofString "list", .list), (Str.ofString "sum", .sum), (Str.ofString "isinstance", .isinstance)]
noncomputable def tabs : Tabs := ⟨fnNames, tyNames, bltNames, [("Wood", 0)], methNames, [("top", 0), ("many", 1)], excNames⟩
end Mini

/-! The relation between the small language's state and the model's. -/
set_option autoImplicit false
namespace Mini
open PySem

abbrev tupObj (vs : List Value) : Obj := { cls := .type "tuple", data := .seq vs.toArray }
abbrev listObj (vs : List Value) (n : Nat) : Obj := { cls := .type "list", data := .seq vs.toArray n }

/-- what is fixed for one law's proof -/
structure Kx where
  prog : Program
  w : World
  h0 : Heap
  tyv : Nat → Value
  fna : Nat → Addr

abbrev Kx.M (K : Kx) : Model := model K.prog K.w

mutual
inductive RV (K : Kx) (ρ : List Addr) (h : Heap) : V → Value → Prop
  | none : RV K ρ h .none .none
  | bool (b) : RV K ρ h (.bool b) (.bool b)
  | int (i t) : RV K ρ h (.int i) (.int i t)
  | str (s t) : RV K ρ h (.str s) (.str s t)
  | tup {l a vs} : h.get? a = some (tupObj vs) → RVs K ρ h l vs → l.length ≤ lenMax → RV K ρ h (.tup l) (.ref a)
  | obj {n a} : ρ[n]? = some a → RV K ρ h (.obj n) (.ref a)
  | ty (t) : RV K ρ h (.ty t) (K.tyv t)
  | frz {l a vs n} : K.h0.get? a = some (listObj vs n) → RVs K ρ h (l.map V.int) vs → l.length ≤ lenMax → RV K ρ h (.frz l) (.ref a)
inductive RVs (K : Kx) (ρ : List Addr) (h : Heap) : List V → List Value → Prop
  | nil : RVs K ρ h [] []
  | cons {v l x vs} : RV K ρ h v x → RVs K ρ h l vs → RVs K ρ h (v :: l) (x :: vs)
end

/-- an abstract object lies at an address -/
noncomputable def OR (K : Kx) (ρ : List Addr) (h : Heap) (a : Addr) : O → Prop
  | .list l => ∃ vs n, h.get? a = some (listObj vs n) ∧ RVs K ρ h l vs ∧ l.length ≤ lenMax
  | _ => False

structure HR (K : Kx) (ρ : List Addr) (σ : H) (h : Heap) : Prop where
  keep : ∀ b o, K.h0.get? b = some o → h.get? b = some o
  len : ρ.length = σ.length
  nd : ρ.Nodup
  new : ∀ a ∈ ρ, K.h0.get? a = none
  obj : ∀ (n : Nat) o a, σ[n]? = some o → ρ[n]? = some a → OR K ρ h a o

/-- one state behind another: what is not among the objects of ρ stays -/
structure Step (ρ : List Addr) (s : Shared) (ρ' : List Addr) (s' : Shared) : Prop where
  pre : ρ <+: ρ'
  fr : ∀ b o, s.heap.get? b = some o → b ∉ ρ → s'.heap.get? b = some o
  fresh : ∀ a, a ∈ ρ' → a ∈ ρ ∨ s.heap.get? a = none
  gens : s'.gens = s.gens
  os : s'.os = s.os

theorem Step.refl (ρ : List Addr) (s : Shared) : Step ρ s ρ s := ⟨List.prefix_refl _, fun _ _ e _ => e, fun _ h => .inl h, rfl, rfl⟩
theorem Step.trans {ρ ρ1 ρ2 : List Addr} {s s1 s2 : Shared} (x : Step ρ s ρ1 s1) (y : Step ρ1 s1 ρ2 s2) : Step ρ s ρ2 s2 where
  pre := x.pre.trans y.pre
  fr := fun b o e hb => y.fr b o (x.fr b o e hb) fun h1 => by
    rcases x.fresh b h1 with h | h
    · exact hb h
    · rw [e] at h; cases h
  fresh := fun a ha => by
    rcases y.fresh a ha with h | h
    · exact x.fresh a h
    · by_cases hr : a ∈ ρ
      · exact .inl hr
      · right
        cases hg : s.heap.get? a with
        | none => rfl
        | some o => rw [x.fr a o hg hr] at h; cases h
  gens := y.gens.trans x.gens
  os := y.os.trans x.os

theorem OR.isSome {K : Kx} {ρ : List Addr} {h : Heap} {a : Addr} {o : O} (x : OR K ρ h a o) : ∃ ob, h.get? a = some ob ∧ ob.cls ≠ .type "tuple" := by
  cases o with
  | list l => obtain ⟨vs, n, e, _⟩ := x; exact ⟨_, e, by show Value.type "list" ≠ Value.type "tuple"; decide⟩
  | _ => exact x.elim

theorem HR.at_ {K : Kx} {ρ : List Addr} {σ : H} {h : Heap} (x : HR K ρ σ h) {a : Addr} (ha : a ∈ ρ) : ∃ ob, h.get? a = some ob ∧ ob.cls ≠ .type "tuple" := by
  obtain ⟨n, hn, rfl⟩ := List.getElem_of_mem ha
  have hs : n < σ.length := by rw [← x.len]; exact hn
  exact (x.obj n _ _ (List.getElem?_eq_getElem hs) (List.getElem?_eq_getElem hn)).isSome

theorem pre_get {α : Type} {l l' : List α} (hp : l <+: l') {n : Nat} {a : α} (e : l[n]? = some a) : l'[n]? = some a := by
  obtain ⟨t, rfl⟩ := hp
  rw [List.getElem?_append_left (List.getElem?_eq_some_iff.mp e).1]; exact e

mutual
theorem RV.mono {K : Kx} {ρ ρ' : List Addr} {h h' : Heap} (hp : ρ <+: ρ') (ht : ∀ a vs, h.get? a = some (tupObj vs) → h'.get? a = some (tupObj vs)) : ∀ {v : V} {x : Value}, RV K ρ h v x → RV K ρ' h' v x
  | _, _, .none => .none
  | _, _, .bool b => .bool b
  | _, _, .int i t => .int i t
  | _, _, .str s t => .str s t
  | _, _, .tup e r n => .tup (ht _ _ e) (RVs.mono hp ht r) n
  | _, _, .obj e => .obj (pre_get hp e)
  | _, _, .ty t => .ty t
  | _, _, .frz e r n => .frz e (RVs.mono hp ht r) n
theorem RVs.mono {K : Kx} {ρ ρ' : List Addr} {h h' : Heap} (hp : ρ <+: ρ') (ht : ∀ a vs, h.get? a = some (tupObj vs) → h'.get? a = some (tupObj vs)) : ∀ {l : List V} {vs : List Value}, RVs K ρ h l vs → RVs K ρ' h' l vs
  | _, _, .nil => .nil
  | _, _, .cons a r => .cons (RV.mono hp ht a) (RVs.mono hp ht r)
end

structure Good (K : Kx) (ρ : List Addr) (s : Shared) (ρ' : List Addr) (σ' : H) (s' : Shared) : Prop where
  hr : HR K ρ' σ' s'.heap
  st : Step ρ s ρ' s'

theorem Good.refl {K : Kx} {ρ : List Addr} {σ : H} {s : Shared} (x : HR K ρ σ s.heap) : Good K ρ s ρ σ s := ⟨x, Step.refl ρ s⟩
theorem Good.trans {K : Kx} {ρ ρ1 ρ2 : List Addr} {σ1 σ2 : H} {s s1 s2 : Shared} (x : Good K ρ s ρ1 σ1 s1) (y : Good K ρ1 s1 ρ2 σ2 s2) : Good K ρ s ρ2 σ2 s2 := ⟨y.hr, x.st.trans y.st⟩
/-- a step in the tokens alone -/
theorem Good.tok {K : Kx} {ρ ρ' : List Addr} {σ' : H} {s s' : Shared} (x : Good K ρ s ρ' σ' s') (t : Nat) : Good K ρ s ρ' σ' { s' with toks := t } :=
  ⟨x.hr, ⟨x.st.pre, x.st.fr, x.st.fresh, x.st.gens, x.st.os⟩⟩

theorem OR.mono {K : Kx} {ρ ρ' : List Addr} {h h' : Heap} {a : Addr} {o : O} (x : OR K ρ h a o) (hp : ρ <+: ρ') (hk : ∀ b o, h.get? b = some o → h'.get? b = some o) : OR K ρ' h' a o := by
  cases o with
  | list l => obtain ⟨vs, n, e, r, hl⟩ := x; exact ⟨vs, n, hk _ _ e, r.mono hp fun a vs e => hk _ _ e, hl⟩
  | _ => exact x.elim
/-- the heap grows -/
theorem HR.grow {K : Kx} {ρ : List Addr} {σ : H} {h h' : Heap} (x : HR K ρ σ h) (hk : ∀ b o, h.get? b = some o → h'.get? b = some o) : HR K ρ σ h' :=
  ⟨fun b o e => hk b o (x.keep b o e), x.len, x.nd, x.new, fun n o a h1 h2 => (x.obj n o a h1 h2).mono (List.prefix_refl _) hk⟩
theorem Good.grow {K : Kx} {ρ : List Addr} {σ : H} {s : Shared} (x : HR K ρ σ s.heap) {h' : Heap} (hk : ∀ b o, s.heap.get? b = some o → h'.get? b = some o) (t : Nat) : Good K ρ s ρ σ { s with heap := h', toks := t } :=
  ⟨x.grow hk, ⟨List.prefix_refl _, fun b o e _ => hk b o e, fun _ h => .inl h, rfl, rfl⟩⟩
/-- a new object, with a number -/
theorem Good.alloc {K : Kx} {ρ : List Addr} {σ : H} {s : Shared} (x : HR K ρ σ s.heap) {h' : Heap} {a : Addr} {o : O} (hk : ∀ b o, s.heap.get? b = some o → h'.get? b = some o) (ha : s.heap.get? a = none)
    (ho : OR K (ρ ++ [a]) h' a o) (t : Nat) : Good K ρ s (ρ ++ [a]) (σ ++ [o]) { s with heap := h', toks := t } := by
  have hna : a ∉ ρ := fun hm => by obtain ⟨ob, e, _⟩ := x.at_ hm; rw [ha] at e; cases e
  refine ⟨⟨fun b o e => hk b o (x.keep b o e), by simp [x.len], ?_, fun b hb => ?_, fun n o' b h1 h2 => ?_⟩, ⟨List.prefix_append _ _, fun b o e _ => hk b o e, fun b hb => ?_, rfl, rfl⟩⟩
  · rw [List.nodup_append]; exact ⟨x.nd, by simp, fun b hb c hc e => by simp at hc; exact hna (hc ▸ e ▸ hb)⟩
  · rcases List.mem_append.mp hb with h | h
    · exact x.new b h
    · rw [List.mem_singleton.mp h]
      cases hg : K.h0.get? a with
      | none => rfl
      | some ob => rw [x.keep a ob hg] at ha; cases ha
  · by_cases hn : n < σ.length
    · rw [List.getElem?_append_left hn] at h1
      rw [List.getElem?_append_left (by rw [x.len]; exact hn)] at h2
      exact (x.obj n o' b h1 h2).mono (List.prefix_append _ _) hk
    · have hn' : n = σ.length := by
        have := (List.getElem?_eq_some_iff.mp h1).1
        simp at this; omega
      subst hn'
      rw [List.getElem?_append_right (Nat.le_refl _)] at h1
      rw [List.getElem?_append_right (by rw [x.len]; exact Nat.le_refl _)] at h2
      simp [x.len] at h1 h2
      rw [← h1, ← h2]; exact ho
  · rcases List.mem_append.mp hb with h | h
    · exact .inl h
    · rw [List.mem_singleton.mp h]; exact .inr ha

theorem get?_size (h : Heap) : h.get? h.objs.size = none := by
  cases e : h.get? h.objs.size with
  | none => rfl
  | some o => exact absurd (Heap.lt_size e) (Nat.lt_irrefl _)

theorem Step.tups {K : Kx} {ρ ρ' : List Addr} {σ : H} {s s' : Shared} (x : Step ρ s ρ' s') (hr : HR K ρ σ s.heap) : ∀ a vs, s.heap.get? a = some (tupObj vs) → s'.heap.get? a = some (tupObj vs) :=
  fun a vs e => x.fr a _ e fun ha => by
    obtain ⟨ob, h1, h2⟩ := hr.at_ ha
    rw [e] at h1; cases h1; exact h2 rfl

theorem RV.step {K : Kx} {ρ ρ' : List Addr} {σ : H} {s s' : Shared} {v : V} {x : Value} (r : RV K ρ s.heap v x) (hr : HR K ρ σ s.heap) (st : Step ρ s ρ' s') : RV K ρ' s'.heap v x := r.mono st.pre (st.tups hr)
theorem RVs.step {K : Kx} {ρ ρ' : List Addr} {σ : H} {s s' : Shared} {v : List V} {x : List Value} (r : RVs K ρ s.heap v x) (hr : HR K ρ σ s.heap) (st : Step ρ s ρ' s') : RVs K ρ' s'.heap v x := r.mono st.pre (st.tups hr)

theorem RVs.length {K : Kx} {ρ : List Addr} {h : Heap} : ∀ {l : List V} {vs : List Value}, RVs K ρ h l vs → l.length = vs.length
  | _, _, .nil => rfl
  | _, _, .cons _ r => by rw [List.length_cons, List.length_cons, RVs.length r]
theorem RVs.get {K : Kx} {ρ : List Addr} {h : Heap} : ∀ {l : List V} {vs : List Value}, RVs K ρ h l vs → ∀ {i : Nat} {v : V}, l[i]? = some v → ∃ x, vs[i]? = some x ∧ RV K ρ h v x
  | _, _, .nil, i, v, e => by simp at e
  | _, _, .cons (x := x) a r, 0, v, e => by simp at e; subst e; exact ⟨x, rfl, a⟩
  | _, _, .cons a r, i + 1, v, e => by simpa using RVs.get r (by simpa using e)
theorem RVs.append {K : Kx} {ρ : List Addr} {h : Heap} : ∀ {l : List V} {vs : List Value}, RVs K ρ h l vs → ∀ {l' : List V} {vs' : List Value}, RVs K ρ h l' vs' → RVs K ρ h (l ++ l') (vs ++ vs')
  | _, _, .nil, _, _, r => r
  | _, _, .cons a r, _, _, r' => .cons a (RVs.append r r')
theorem RVs.take {K : Kx} {ρ : List Addr} {h : Heap} : ∀ {l : List V} {vs : List Value}, RVs K ρ h l vs → ∀ n : Nat, RVs K ρ h (l.take n) (vs.take n)
  | _, _, _, 0 => by simpa using RVs.nil
  | _, _, .nil, _ + 1 => by simpa using RVs.nil
  | _, _, .cons a r, n + 1 => by simpa using RVs.cons a (RVs.take r n)
theorem RVs.drop {K : Kx} {ρ : List Addr} {h : Heap} : ∀ {l : List V} {vs : List Value}, RVs K ρ h l vs → ∀ n : Nat, RVs K ρ h (l.drop n) (vs.drop n)
  | _, _, r, 0 => r
  | _, _, .nil, _ + 1 => by simpa using RVs.nil
  | _, _, .cons a r, n + 1 => by simpa using RVs.drop r n

/-- a tree that gives a value as the evaluator says -/
noncomputable def TR (K : Kx) (A : Around) {α : Type} (t : Sem α) (ρ : List Addr) (s : Shared) (σ' : H) (P : List Addr → α → Shared → Prop) : Prop :=
  wpAny K.M A t (fun a s' => ∃ ρ', Good K ρ s ρ' σ' s' ∧ P ρ' a s') (fun _ _ => False) s

theorem TR.bind {K : Kx} {A : Around} {α β : Type} {m : Sem α} {f : α → Sem β} {ρ : List Addr} {s : Shared} {σ1 σ2 : H} {P : List Addr → α → Shared → Prop} {P' : List Addr → β → Shared → Prop}
    (h : TR K A m ρ s σ1 P) (h' : ∀ ρ1 a s1, Good K ρ s ρ1 σ1 s1 → P ρ1 a s1 → TR K A (f a) ρ1 s1 σ2 P') : TR K A (m >>= f) ρ s σ2 P' := by
  refine wpAny_bind (wpAny_mono h (fun a s1 hq => ?_) fun _ _ f => f.elim)
  obtain ⟨ρ1, g1, p1⟩ := hq
  refine wpAny_mono (h' ρ1 a s1 g1 p1) (fun b s2 hq => ?_) fun _ _ f => f
  obtain ⟨ρ2, g2, p2⟩ := hq
  exact ⟨ρ2, g1.trans g2, p2⟩
theorem TR.mono {K : Kx} {A : Around} {α : Type} {t : Sem α} {ρ : List Addr} {s : Shared} {σ' : H} {P P' : List Addr → α → Shared → Prop} (h : TR K A t ρ s σ' P) (hp : ∀ ρ' a s', Good K ρ s ρ' σ' s' → P ρ' a s' → P' ρ' a s') : TR K A t ρ s σ' P' :=
  wpAny_mono h (fun a s' hq => let ⟨ρ', g, p⟩ := hq; ⟨ρ', g, hp ρ' a s' g p⟩) fun _ _ f => f
/-- from any start: the step is put ahead -/
theorem TR.after {K : Kx} {A : Around} {α : Type} {t : Sem α} {ρ ρ1 : List Addr} {s s1 : Shared} {σ1 σ' : H} {P : List Addr → α → Shared → Prop} (g : Good K ρ s ρ1 σ1 s1) (h : TR K A t ρ1 s1 σ' P) :
    wpAny K.M A t (fun a s' => ∃ ρ', Good K ρ s ρ' σ' s' ∧ P ρ' a s') (fun _ _ => False) s1 :=
  wpAny_mono h (fun _ _ hq => let ⟨ρ', g', p⟩ := hq; ⟨ρ', g.trans g', p⟩) fun _ _ f => f
theorem TR.pure {K : Kx} {A : Around} {α : Type} {a : α} {ρ : List Addr} {s : Shared} {σ : H} {P : List Addr → α → Shared → Prop} (x : HR K ρ σ s.heap) (p : P ρ a s) : TR K A (pure a) ρ s σ P := wpAny_pure ⟨ρ, Good.refl x, p⟩

theorem bnd_ok_inv {α β : Type} {x : X α} {f : α → H → X β} {b : β} {σ' : H} (h : bnd x f = some (.ok b, σ')) : ∃ a σ1, x = some (.ok a, σ1) ∧ f a σ1 = some (.ok b, σ') := by
  unfold bnd at h
  split at h
  · cases h
  · exact ⟨_, _, rfl, h⟩
  · cases h
theorem okX_inv {α : Type} {a : Option α} {σ : H} {b : α} {σ' : H} (h : okX a σ = some (.ok b, σ')) : a = some b ∧ σ' = σ := by
  cases a with
  | none => cases h
  | some a => cases h; exact ⟨rfl, rfl⟩
theorem okH_inv {α : Type} {a : Option (α × H)} {b : α} {σ' : H} (h : okH a = some (.ok b, σ')) : a = some (b, σ') := by
  cases a with
  | none => cases h
  | some a => cases h; rfl
end Mini

/-! Frames; names; the judgement for expressions. -/
set_option autoImplicit false
namespace Mini
open PySem

theorem Ns.at {h h' : Heap} {a : Addr} {m : Str → Option Value} (x : h.Ns a m) (k : ∀ o, h.get? a = some o → h'.get? a = some o) : h'.Ns a m :=
  let ⟨o, es, ep, e, r⟩ := x; ⟨o, es, ep, k o e, r⟩
theorem IsCell.at {h h' : Heap} {a : Addr} {v : Option Value} (x : h.IsCell a v) (k : ∀ o, h.get? a = some o → h'.get? a = some o) : h'.IsCell a v :=
  let ⟨o, e, r⟩ := x; ⟨o, k o e, r⟩
theorem Ns.ex {h : Heap} {a : Addr} {m : Str → Option Value} (x : h.Ns a m) : ∃ o, h.get? a = some o := let ⟨o, _, _, e, _⟩ := x; ⟨o, e⟩

structure FO (K : Kx) (env : Env) (c : CEnv) (ℓ : L) (ρ : List Addr) (h : Heap) : Prop where
  kind : env.scope.kind = .function
  names : env.scope.names = c.names
  glob : env.globals = mainGlobals
  blts : env.builtins = builtinsNs
  ns : ∃ m, h.Ns env.locals m ∧ ∀ (x : Str) (i : Nat) v, c.names.lookup x = some .local → c.slots.lookup x = some i → ℓ[i]? = some (some v) → ∃ cv, m x = some cv ∧ RV K ρ h v cv
  cell : ∀ x, c.names.lookup x = some .cell → ∃ a o, env.cells.lookup x = some a ∧ h.IsCell a o ∧ ∀ (i : Nat) v, c.slots.lookup x = some i → ℓ[i]? = some (some v) → ∃ cv, o = some cv ∧ RV K ρ h v cv
  inj : ∀ x y i, c.slots.lookup x = some i → c.slots.lookup y = some i → x = y
  capart : ∀ x y a, (x, a) ∈ env.cells → (y, a) ∈ env.cells → x = y
  lnew : env.locals ∉ ρ ∧ K.h0.get? env.locals = none
  free : ∀ (i : Nat) v, c.next ≤ i → ℓ[i]? ≠ some (some v)
  lt : ∀ x i, c.slots.lookup x = some i → i < c.next
  cnew : ∀ x a, (x, a) ∈ env.cells → a ∉ ρ ∧ K.h0.get? a = none ∧ a ≠ env.locals ∧ ∃ o, h.get? a = some o ∧ ∀ vs, o ≠ tupObj vs

theorem FO.step {K : Kx} {env : Env} {c : CEnv} {ℓ : L} {ρ ρ' : List Addr} {σ : H} {s s' : Shared} (x : FO K env c ℓ ρ s.heap) (hr : HR K ρ σ s.heap) (st : Step ρ s ρ' s') : FO K env c ℓ ρ' s'.heap where
  kind := x.kind
  names := x.names
  glob := x.glob
  blts := x.blts
  ns := by
    obtain ⟨m, hn, hv⟩ := x.ns
    exact ⟨m, Ns.at hn fun o e => st.fr _ _ e x.lnew.1, fun y i v h1 h2 h3 => let ⟨cv, h4, h5⟩ := hv y i v h1 h2 h3; ⟨cv, h4, h5.step hr st⟩⟩
  cell := fun y hy => by
    obtain ⟨a, o, h1, h2, h3⟩ := x.cell y hy
    exact ⟨a, o, h1, IsCell.at h2 fun o e => st.fr _ _ e (x.cnew y a (mem_of_lookup h1)).1, fun i v h4 h5 => let ⟨cv, h6, h7⟩ := h3 i v h4 h5; ⟨cv, h6, h7.step hr st⟩⟩
  inj := x.inj
  capart := x.capart
  free := x.free
  lt := x.lt
  lnew := by
    refine ⟨fun hm => ?_, x.lnew.2⟩
    obtain ⟨m, hn, _⟩ := x.ns
    obtain ⟨o, e⟩ := Ns.ex hn
    rcases st.fresh _ hm with h | h
    · exact x.lnew.1 h
    · rw [e] at h; cases h
  cnew := fun y a hy => by
    obtain ⟨h1, h2, h3, o, h4, h5⟩ := x.cnew y a hy
    refine ⟨fun hm => ?_, h2, h3, o, st.fr _ _ h4 h1, h5⟩
    rcases st.fresh _ hm with h | h
    · exact h1 h
    · rw [h4] at h; cases h

noncomputable def bltVal : Blt → Value
  | .len => .builtin "len"
  | .max => .builtin "max"
  | .min => .builtin "min"
  | .sorted => .builtin "sorted"
  | .int => .type "int"
  | .list => .type "list"
  | .sum => .builtin "sum"
  | .isinstance => .builtin "isinstance"

/-- the facts of the top -/
structure GK (K : Kx) (T : Tabs) : Prop where
  g : ∃ mg mb, K.h0.Ns mainGlobals mg ∧ K.h0.Ns builtinsNs mb ∧ (∀ x t, T.tys.lookup x = some t → mg x = some (K.tyv t) ∨ (mg x = none ∧ mb x = some (K.tyv t))) ∧
    (∀ x n, T.fns.lookup x = some n → mg x = some (.ref (K.fna n)) ∧ ∃ o fd, K.h0.get? (K.fna n) = some o ∧ o.data = .func fd) ∧
    (∀ x b, T.blts.lookup x = some b → mg x = none ∧ mb x = some (bltVal b)) ∧ mg sRange = none ∧ mb sRange = some (.type "range")

noncomputable def PE (K : Kx) (A : Around) (env : Env) (c : CEnv) (cl : Cl) (e : Expr) (a : Ex) : Prop :=
  ∀ ℓ σ v σ', evalE cl a ℓ σ = some (.ok v, σ') → ∀ ρ s, HR K ρ σ s.heap → FO K env c ℓ ρ s.heap → TR K A (eval e env) ρ s σ' fun ρ' cv s' => RV K ρ' s'.heap v cv

section
variable {K : Kx} {A : Around} {env : Env} {c : CEnv} {cl : Cl} {T : Tabs}

theorem pe_const {k : Const} {n : Nat} {pos : Pos} {v : V} (h : cConst k = some v) : PE K A env c cl (.Constant k n pos) (.lit v) := by
  intro ℓ σ v' σ' he ρ s hr fo
  cases he
  cases k <;> cases h
  · exact wpAny_Constant_none ⟨ρ, Good.refl hr, .none⟩
  · exact wpAny_Constant_bool ⟨ρ, Good.refl hr, .bool _⟩
  · exact wpAny_Constant_int ⟨ρ, (Good.refl hr).tok _, .int _ _⟩
  · exact wpAny_Constant_str ⟨ρ, (Good.refl hr).tok _, .str _ _⟩

theorem cVar_inv {x : Str} {i : Nat} (h : cVar c x = some i) : (c.names.lookup x = some .local ∨ c.names.lookup x = some .cell) ∧ (x == ("__debug__" : Str)) = false ∧ c.slots.lookup x = some i := by
  unfold cVar at h
  split at h
  · rename_i hk
    split at h
    · cases h
    · rename_i hd; exact ⟨.inl hk, by simpa using hd, h⟩
  · rename_i hk
    split at h
    · cases h
    · rename_i hd; exact ⟨.inr hk, by simpa using hd, h⟩
  · cases h

theorem pe_var {x : Str} {pos : Pos} {i : Nat} (h : cVar c x = some i) : PE K A env c cl (.Name x pos) (.var i) := by
  intro ℓ σ v σ' he ρ s hr fo
  obtain ⟨hj, rfl⟩ := okX_inv (show okX (ℓ[i]?.join) σ = some (.ok v, σ') from by simpa [evalE] using he)
  obtain ⟨hk, hd, hs⟩ := cVar_inv h
  have hv : ℓ[i]? = some (some v) := by
    cases hl : ℓ[i]? with
    | none => rw [hl] at hj; cases hj
    | some o => rw [hl] at hj; simp at hj; rw [hj]
  refine wpAny_Name ?_ hd
  rcases hk with hk | hk
  · obtain ⟨m, hn, hm⟩ := fo.ns
    obtain ⟨cv, h1, h2⟩ := hm x i v hk hs hv
    exact wpAny_loadName_local fo.kind (show env.scope.names.lookup x = _ by rw [fo.names]; exact hk) hn h1 ⟨ρ, Good.refl hr, h2⟩
  · obtain ⟨a, o, h1, h2, h3⟩ := fo.cell x hk
    obtain ⟨cv, rfl, h4⟩ := h3 i v hs hv
    exact wpAny_loadName_cell fo.kind (show env.scope.names.lookup x = _ by rw [fo.names]; exact hk) h1 h2 ⟨ρ, Good.refl hr, h4⟩

/-- a global name: the top's own or a built-in -/
theorem glob_load {x : Str} {pos : Pos} {v : Value} {mg mb : Str → Option Value} {Q : Value → Shared → Prop} {E : Value → Shared → Prop} {ρ : List Addr} {σ : H} {s : Shared} {ℓ : L} (hr : HR K ρ σ s.heap) (fo : FO K env c ℓ ρ s.heap)
    (hk : c.names.lookup x = some .globalImplicit) (hd : (x == ("__debug__" : Str)) = false) (hg : K.h0.Ns mainGlobals mg) (hb : K.h0.Ns builtinsNs mb) (hv : mg x = some v ∨ (mg x = none ∧ mb x = some v)) (hq : Q v s) :
    wpAny K.M A (eval (.Name x pos) env) Q E s := by
  refine Calls.Name_function_global fo.kind (show env.scope.names.lookup x = _ by rw [fo.names]; exact hk) ?_ hd
  have hg' : s.heap.Ns env.globals mg := by rw [fo.glob]; exact hg.keeps hr.keep
  rcases hv with hv | ⟨h1, h2⟩
  · exact Calls.loadGlobal_global hg' hv hq
  · exact Calls.loadGlobal_builtin hg' h1 (show s.heap.Ns env.builtins mb by rw [fo.blts]; exact hb.keeps hr.keep) h2 hq

theorem pe_name (G : GK K T) {x : Str} {pos : Pos} {a : Ex} (h : cName T c x = some a) : PE K A env c cl (.Name x pos) a := by
  unfold cName at h
  split at h
  · obtain ⟨i, hi, rfl⟩ := Option.map_eq_some_iff.mp h; exact pe_var hi
  · obtain ⟨i, hi, rfl⟩ := Option.map_eq_some_iff.mp h; exact pe_var hi
  · rename_i hk
    split at h
    · cases h
    · rename_i hd
      obtain ⟨t, ht, rfl⟩ := Option.map_eq_some_iff.mp h
      intro ℓ σ v σ' he ρ s hr fo
      obtain ⟨mg, mb, hg, hb, hty, _⟩ := G.g
      cases he
      exact glob_load hr fo hk (by simpa using hd) hg hb (hty x t ht) ⟨ρ, Good.refl hr, .ty t⟩
  · cases h
end
end Mini

/-! Operators. -/
set_option autoImplicit false
namespace Mini
open PySem PyProof.Rows

theorem intBits_of_natAbs {a : Int} {n : Nat} (h : a.natAbs < 2 ^ n) : Builtin.Int.intBits a ≤ n := by
  unfold Builtin.Int.intBits
  split
  · exact Nat.zero_le _
  · rename_i h0
    have hp : a.natAbs ≠ 0 := by simpa using h0
    have := (Nat.log2_lt hp).mpr h
    omega

theorem mulOK.ok {a b : Int} (h : mulOK a b) : IntMulOk a b := by
  rcases h with h | h | ⟨h1, h2⟩
  · exact IntMulOk.of_left (intBits_of_natAbs h)
  · exact IntMulOk.of_right (intBits_of_natAbs h)
  · have e1 : Builtin.Int.intBits a ≤ 2 ^ 21 := intBits_of_natAbs h1
    have e2 : Builtin.Int.intBits b ≤ 2 ^ 21 := intBits_of_natAbs h2
    unfold IntMulOk Builtin.Int.intTooBig bitsLine
    simp only [Bool.and_eq_true, decide_eq_true_eq, not_and]
    intro _
    omega

theorem mkList_inv {σ : H} {l : List V} {v : V} {σ' : H} (h : mkList σ l = some (v, σ')) : l.length ≤ lenMax ∧ v = .obj σ.length ∧ σ' = σ ++ [.list l] := by
  unfold mkList at h
  split at h
  · rename_i hl; cases h; exact ⟨hl, rfl, rfl⟩
  · cases h

section
variable {K : Kx} {A : Around}

/-- a new list object: its place in the relation -/
theorem good_list {ρ : List Addr} {σ : H} {s : Shared} (hr : HR K ρ σ s.heap) {l : List V} {vs : List Value} (r : RVs K ρ s.heap l vs) (hl : l.length ≤ lenMax) {n : Nat} (t : Nat) :
    Good K ρ s (ρ ++ [s.heap.objs.size]) (σ ++ [.list l]) { s with heap := s.heap.push (listObj vs n), toks := t } ∧ RV K (ρ ++ [s.heap.objs.size]) (s.heap.push (listObj vs n)) (.obj σ.length) (.ref s.heap.objs.size) := by
  have hk : ∀ b o, s.heap.get? b = some o → (s.heap.push (listObj vs n)).get? b = some o := fun b o e => Heap.get?_push_of_some _ e
  refine ⟨Good.alloc (o := .list l) hr hk (get?_size _) ⟨vs, n, Heap.get?_push_size _ rfl, r.mono (List.prefix_append _ _) (fun a vs e => hk _ _ e), hl⟩ t, .obj ?_⟩
  rw [List.getElem?_append_right (by rw [hr.len]; exact Nat.le_refl _), hr.len]; simp

/-- a new tuple -/
theorem good_tup {ρ : List Addr} {σ : H} {s : Shared} (hr : HR K ρ σ s.heap) {l : List V} {vs : List Value} (r : RVs K ρ s.heap l vs) (hl : l.length ≤ lenMax) (t : Nat) :
    Good K ρ s ρ σ { s with heap := s.heap.push (tupObj vs), toks := t } ∧ RV K ρ (s.heap.push (tupObj vs)) (.tup l) (.ref s.heap.objs.size) := by
  have hk : ∀ b o, s.heap.get? b = some o → (s.heap.push (tupObj vs)).get? b = some o := fun b o e => Heap.get?_push_of_some _ e
  exact ⟨Good.grow hr hk t, .tup (Heap.get?_push_size _ rfl) (r.mono (List.prefix_refl _) fun a vs e => hk _ _ e) hl⟩

theorem listOf_inv {ρ : List Addr} {σ : H} {h : Heap} (hr : HR K ρ σ h) {v : V} {x : Value} {l : List V} (e : listOf σ v = some l) (r : RV K ρ h v x) :
    ∃ a vs n, x = .ref a ∧ h.get? a = some (listObj vs n) ∧ RVs K ρ h l vs ∧ l.length ≤ lenMax := by
  cases v with
  | obj n =>
    cases r with
    | obj ha =>
      simp only [listOf] at e
      split at e
      · rename_i l' hl
        cases e
        obtain ⟨vs, n', h1, h2, h3⟩ := hr.obj _ _ _ hl ha
        exact ⟨_, vs, n', rfl, h1, h2, h3⟩
      · cases e
  | frz l' =>
    cases r with
    | frz ha hv hn => cases e; exact ⟨_, _, _, rfl, hr.keep _ _ ha, hv, by simpa using hn⟩
  | _ => cases e

theorem list_len {l : List V} {vs : List Value} {ρ : List Addr} {h : Heap} (r : RVs K ρ h l vs) (hl : l.length ≤ lenMax) : vs.length ≤ sizeLine := by
  rw [← r.length, sizeLine_eq]; unfold lenMax at hl; omega

theorem binop_sound {op : Bop} {x y v : V} {σ σ' : H} (h : binop op x y σ = some (v, σ')) {ρ : List Addr} {s : Shared} {cx cy : Value} (hr : HR K ρ σ s.heap) (rx : RV K ρ s.heap x cx) (ry : RV K ρ s.heap y cy)
    {o : Operator} (ho : cOp o = some op) : TR K A (binaryOp o cx cy) ρ s σ' fun ρ' cv s' => RV K ρ' s'.heap v cv := by
  unfold binop at h
  split at h
  · cases rx; cases ry; cases h
    cases o <;> simp [cOp] at ho
    exact add_int ⟨ρ, (Good.refl hr).tok _, .int _ _⟩
  · cases rx; cases ry; cases h
    cases o <;> simp [cOp] at ho
    exact sub_int' ⟨ρ, (Good.refl hr).tok _, .int _ _⟩
  · cases rx; cases ry
    split at h
    · rename_i hm
      cases h
      cases o <;> simp [cOp] at ho
      exact mul_int ⟨ρ, (Good.refl hr).tok _, .int _ _⟩ hm.ok
    · cases h
  · cases rx; cases ry
    split at h
    · rename_i hm
      cases h
      cases o <;> simp [cOp] at ho
      refine floordiv_int hm.1 ⟨ρ, (Good.refl hr).tok _, .int _ _⟩ (.inl (PyProof.noPylong_of_log2 ?_))
      have := (Nat.log2_lt (show (_ : Int).natAbs ≠ 0 by simpa using hm.1)).mpr hm.2
      omega
    · cases h
  · cases rx; cases ry
    split at h
    · rename_i hm
      cases h
      cases o <;> simp [cOp] at ho
      exact mod_int' hm ⟨ρ, (Good.refl hr).tok _, .int _ _⟩
    · cases h
  · cases rx; cases ry
    split at h
    · rename_i hm
      cases h
      cases o <;> simp [cOp] at ho
      refine pow_int hm.1 ?_ ⟨ρ, (Good.refl hr).tok _, .int _ _⟩
      have h1 := intBits_of_natAbs hm.2.2
      refine Int.le_trans (Int.mul_le_mul (Int.ofNat_le.mpr h1) hm.2.1 hm.1 (by omega)) (by decide)
    · cases h
  · split at h
    · rename_i l1 l2 h1 h2
      obtain ⟨hl, rfl, rfl⟩ := mkList_inv h
      obtain ⟨a, vs, n, rfl, g1, r1, _⟩ := listOf_inv hr h1 rx
      obtain ⟨b, ws, n2, rfl, g2, r2, _⟩ := listOf_inv hr h2 ry
      cases o <;> simp [cOp] at ho
      have hsz : vs.toArray.size + ws.toArray.size ≤ sizeLine := by
        have := list_len (r1.append r2) hl
        simpa using this
      refine concat_meets ⟨_, g1, rfl⟩ ⟨_, g2, rfl⟩ noFill_list_add seq_list_add PySem.F.slot_list_add PySem.F.entry_list_add (PySem.F.args_list_add_2 _ _) (list_addW a b vs.toArray ws.toArray n n2 none none #[] #[] hsz) ⟨g1, g2, ?_⟩
      have e : vs.toArray ++ ws.toArray = (vs ++ ws).toArray := by simp
      rw [e]
      obtain ⟨g, rr⟩ := good_list (n := 0) hr (r1.append r2) hl s.toks
      exact ⟨_, g, rr⟩
    · cases h
  · split at h
    · rename_i x1 y1 hm
      cases h
      cases rx with
      | tup e1 r1 _ =>
        cases ry with
        | tup e2 r2 _ =>
          cases o <;> simp [cOp] at ho
          rename_i a vs _ b ws _
          have hsz : vs.toArray.size + ws.toArray.size ≤ sizeLine := by
            have := list_len (r1.append r2) (by simpa using hm.2.2)
            simpa using this
          have n1 : ¬ vs.toArray.isEmpty = true := by
            have := r1.length
            cases vs with
            | nil => simp at this; exact absurd this hm.1
            | cons _ _ => simp
          have n2 : ¬ ws.toArray.isEmpty = true := by
            have := r2.length
            cases ws with
            | nil => simp at this; exact absurd this hm.2.1
            | cons _ _ => simp
          refine concat_meets ⟨_, e1, rfl⟩ ⟨_, e2, rfl⟩ noFill_tuple_add seq_tuple_add PySem.F.slot_tuple_add PySem.F.entry_tuple_add (PySem.F.args_tuple_add_2 _ _) (tuple_addW2 a b vs.toArray ws.toArray 0 0 none none #[] #[] n1 n2 hsz) ⟨e1, e2, ?_⟩
          have e : vs.toArray ++ ws.toArray = (vs ++ ws).toArray := by simp
          rw [e]
          obtain ⟨g, rr⟩ := good_tup hr (r1.append r2) (by simpa using hm.2.2) s.toks
          exact ⟨_, g, rr⟩
    · cases h
  · split at h
    · rename_i k _ x1 hl
      split at h
      · rename_i hk
        obtain ⟨hlen, rfl, rfl⟩ := mkList_inv h
        obtain ⟨a, vs, n, rfl, g1, r1, _⟩ := listOf_inv hr hl rx
        cases ry
        rename_i u
        cases o <;> simp [cOp] at ho
        cases r1 with
        | cons r0 rn =>
          cases rn
          rename_i x0
          have hx : ([x0] : List Value).toArray.size * k.toNat ≤ 1 := by rcases hk with rfl | rfl <;> simp
          refine wpAny_binaryOp_repeat_ref (T := "list") (U := "int") (by decide) ⟨_, g1, rfl⟩ (fun s' => typeIs_int s' k u) noFill_list_mul F.fills_int_mul F.slot_int_rmul repeat_list F.slot_int_index.lookup
            (call_meets F.slot_int_rmul (typeIs_int s k u) F.entry_int_rmul (F.args_int_rmul_2 _ _) (int___rmul___int_list k u a [x0].toArray n)
              ⟨g1, rfl, ⟨_, g1, rfl⟩, call_meets F.slot_list_mul ⟨_, g1, rfl⟩ F.entry_list_mul (F.args_list_mul_2 _ _)
                (AutoListH.list___mul___list_int_3 a [x0].toArray n k u (by simp [Builtin.List.listFitsIndex]; omega) (by omega) (by simp [Builtin.List.listTooLong, sizeLine]; simp at hx; omega))
                ⟨g1, ?_⟩⟩)
          have rk : RVs K ρ s.heap (List.replicate k.toNat x1) (List.replicate k.toNat x0) := by
            rcases hk with rfl | rfl
            · exact .nil
            · exact .cons r0 .nil
          have e : (List.foldl (fun x1 x2 => x1 ++ x2) #[] (List.replicate (if [x0].toArray.isEmpty = true then 0 else k.toNat) [x0].toArray)) = (List.replicate k.toNat x0).toArray := by
            rcases hk with rfl | rfl
            · rfl
            · rfl
          rw [e]
          obtain ⟨g, rr⟩ := good_list (n := 0) hr rk hlen s.toks
          exact ⟨_, g, rr⟩
      · cases h
    · cases h
  · cases rx; cases ry
    rename_i t u
    cases o <;> simp [cOp] at ho
    split at h
    · rename_i hk
      subst hk; cases h
      refine P.mul_str (by decide) (fun _ hc => by simp at hc) (fun _ hc => by simp at hc) ?_
      rw [if_neg (by decide), if_pos (by simp)]
      exact ⟨ρ, Good.refl hr, .str _ _⟩
    · split at h
      · rename_i hk
        subst hk; cases h
        exact P.mul_str_none (by decide) (by decide) ⟨ρ, (Good.refl hr).tok _, .str _ _⟩
      · cases h
  · cases h
end
end Mini

/-! Order of tuples. -/
set_option autoImplicit false
namespace Mini
open PySem PyProof.Rows PySem.SeqAt
open AutoSeq1 (wpAny_loadPart')

section
variable {K : Kx} {A : Around}

theorem ltT_step {l r : List V} {vs ws : List Value} {ρ : List Addr} {h : Heap} (r1 : RVs K ρ h l vs) (r2 : RVs K ρ h r ws) {b : Bool} (e : ltT l r = some b) (hv : vs ≠ []) (hw : ws ≠ []) :
    ∃ a c t u l' r' vs' ws', vs = .int a t :: vs' ∧ ws = .int c u :: ws' ∧ RVs K ρ h l' vs' ∧ RVs K ρ h r' ws' ∧ (if a = c then ltT l' r' = some b else b = decide (a < c)) := by
  cases r1 with
  | nil => exact absurd rfl hv
  | cons x1 s1 =>
    cases r2 with
    | nil => exact absurd rfl hw
    | cons x2 s2 =>
      rename_i v l' x vs' v2 r' x2' ws'
      unfold ltT at e
      split at e
      · rename_i heq _; cases heq
      · rename_i heq _; cases heq
      · rename_i heq; cases heq
      · rename_i a r0 c s0 h1 h2
        cases h1; cases h2; cases x1; cases x2
        refine ⟨_, _, _, _, _, _, _, _, rfl, rfl, s1, s2, ?_⟩
        split at e
        · rename_i hac; rw [if_pos hac]; exact e
        · rename_i hac; rw [if_neg hac]; cases e; rfl
      · cases e

theorem ltT_end {l r : List V} {vs ws vs0 ws0 : List Value} {ρ : List Addr} {h : Heap} (r1 : RVs K ρ h l vs) (r2 : RVs K ρ h r ws) {b : Bool} (e : ltT l r = some b) (hz : [] = vs.zip ws)
    (hl : (vs.length : Int) - ws.length = vs0.length - ws0.length) : b = decide (vs0.length < ws0.length) := by
  cases r1 with
  | nil =>
    cases r2 with
    | nil => cases e; simp at hl; simp; omega
    | cons _ s2 => cases e; simp at hl; simp; omega
  | cons x1 s1 =>
    cases r2 with
    | nil => cases e; simp at hl; simp; omega
    | cons _ s2 => simp at hz

set_option maxHeartbeats 1000000 in
theorem tuple_ltM (l b : Addr) (vs ws : List Value) (x y : List V) (ρ : List Addr) (r : Bool) (e : ltT x y = some r) :
    Meets (Builtin.«tuple.__lt__» ⟨[.ref l, .ref b], []⟩)
      (fun _ R s => s.heap.get? l = some (tupObj vs) ∧ s.heap.get? b = some (tupObj ws) ∧ RVs K ρ s.heap x vs ∧ RVs K ρ s.heap y ws ∧ R (.ok (.ret (.bool r))) s) :=
  .of_wp fun prog w A R s h => by
    obtain ⟨hp, g, d, tk, os⟩ := s; obtain ⟨hl, hb, r1, r2, h⟩ := h
    have f2 := AutoSeq1.sub_tuple_tuple
    wp_walk using wpAny_loadPart' hl, wpAny_loadPart' hb, wpAny_forIn_list _ (fun rest b s' => b.1 = none ∧ s' = ⟨hp, g, d, tk, os⟩ ∧ ∃ x' y' vs' ws', rest = vs'.zip ws' ∧ RVs K ρ hp x' vs' ∧ RVs K ρ hp y' ws' ∧ ltT x' y' = some r ∧ (vs'.length : Int) - ws'.length = vs.length - ws.length) _
    case turn =>
      rintro ⟨p, q⟩ rest b s' ⟨hb', rfl, x', y', vs', ws', hz, s1, s2, e', hlen⟩
      obtain ⟨a, c, t, u, l', r', vs2, ws2, rfl, rfl, q1, q2, hif⟩ := ltT_step s1 s2 e' (by intro h0; subst h0; cases hz) (by intro h0; subst h0; simp at hz)
      cases hz
      refine wpAny_bind (EqAt.int_int a t c u prog w _ _ ?_)
      by_cases hac : a = c
      · rw [if_pos hac] at hif
        rw [show (a == c) = true by simpa using hac]
        wp_walk
        exact ⟨rfl, rfl, l', r', vs2, ws2, rfl, q1, q2, hif, by simp at hlen; omega⟩
      · rw [if_neg hac] at hif
        rw [show (a == c) = false by simpa using hac]
        subst hif
        refine wpAny_bind (wpAny_rule (wpAny_bind (show wpAny _ _ (compareOp .Lt (.int a t) (.int c u)) _ _ _ from lt_int ?_)))
        exact wpAny_bind (wpAny_pure (wpAny_pure (wpAny_pure ⟨_, rfl, h⟩)))
    case fin =>
      rintro ⟨b1, b2⟩ s' ⟨hb', rfl, x', y', vs', ws', hz, s1, s2, e', hlen⟩
      simp only at hb'
      subst hb'
      wp_walk
      refine ⟨_, rfl, ?_⟩
      have hr : r = decide (vs.length < ws.length) := ltT_end s1 s2 e' hz hlen
      subst hr
      simpa [Builtin.Tuple.tupleCompareSizes] using h
    case h =>
      exact ⟨rfl, rfl, x, y, vs, ws, by simp, r1, r2, e, rfl⟩
set_option maxHeartbeats 1000000 in
theorem tuple_gtM (l b : Addr) (vs ws : List Value) (x y : List V) (ρ : List Addr) (r : Bool) (e : ltT y x = some r) :
    Meets (Builtin.«tuple.__gt__» ⟨[.ref l, .ref b], []⟩)
      (fun _ R s => s.heap.get? l = some (tupObj vs) ∧ s.heap.get? b = some (tupObj ws) ∧ RVs K ρ s.heap x vs ∧ RVs K ρ s.heap y ws ∧ R (.ok (.ret (.bool r))) s) :=
  .of_wp fun prog w A R s h => by
    obtain ⟨hp, g, d, tk, os⟩ := s; obtain ⟨hl, hb, r1, r2, h⟩ := h
    have f2 := AutoSeq1.sub_tuple_tuple
    wp_walk using wpAny_loadPart' hl, wpAny_loadPart' hb, wpAny_forIn_list _ (fun rest b s' => b.1 = none ∧ s' = ⟨hp, g, d, tk, os⟩ ∧ ∃ x' y' vs' ws', rest = vs'.zip ws' ∧ RVs K ρ hp x' vs' ∧ RVs K ρ hp y' ws' ∧ ltT y' x' = some r ∧ (vs'.length : Int) - ws'.length = vs.length - ws.length) _
    case turn =>
      rintro ⟨p, q⟩ rest b s' ⟨hb', rfl, x', y', vs', ws', hz, s1, s2, e', hlen⟩
      obtain ⟨c, a, u, t, r', l', ws2, vs2, rfl, rfl, q2, q1, hif⟩ := ltT_step s2 s1 e' (by intro h0; subst h0; simp at hz) (by intro h0; subst h0; cases hz)
      cases hz
      refine wpAny_bind (EqAt.int_int a t c u prog w _ _ ?_)
      by_cases hac : c = a
      · rw [if_pos hac] at hif
        rw [show (a == c) = true by simpa using hac.symm]
        wp_walk
        exact ⟨rfl, rfl, l', r', vs2, ws2, rfl, q1, q2, hif, by simp at hlen; omega⟩
      · rw [if_neg hac] at hif
        rw [show (a == c) = false by simpa using fun e => hac e.symm]
        subst hif
        refine wpAny_bind (wpAny_rule (wpAny_bind (show wpAny _ _ (compareOp .Gt (.int a t) (.int c u)) _ _ _ from gt_int ?_)))
        exact wpAny_bind (wpAny_pure (wpAny_pure (wpAny_pure ⟨_, rfl, h⟩)))
    case fin =>
      rintro ⟨b1, b2⟩ s' ⟨hb', rfl, x', y', vs', ws', hz, s1, s2, e', hlen⟩
      simp only at hb'
      subst hb'
      wp_walk
      refine ⟨_, rfl, ?_⟩
      have hr : r = decide (ws.length < vs.length) := ltT_end s2 s1 e' (by cases vs' <;> cases ws' <;> simp at hz ⊢) (by omega)
      subst hr
      simpa [Builtin.Tuple.tupleCompareSizes] using h
    case h =>
      exact ⟨rfl, rfl, x, y, vs, ws, by simp, r1, r2, e, rfl⟩
end
end Mini

/-! Comparisons. -/
set_option autoImplicit false
namespace Mini
open PySem PyProof.Rows PySem.SeqAt

section
variable {K : Kx} {A : Around}

theorem mapM_reads {ρ : List Addr} {h : Heap} {f : V → Option PyData} {n : Nat} (hf : ∀ v cv d, f v = some d → RV K ρ h v cv → ∃ as, Reads h cv d as ∧ d.canLay0 = true ∧ d.depth ≤ n) :
    ∀ (l : List V) (vs : List Value) (ds : List PyData), l.mapM f = some ds → RVs K ρ h l vs → ∃ as, ReadsAll h vs ds as ∧ PyData.canLayAll0 ds = true ∧ PyData.depthAll ds ≤ n
  | [], vs, ds, e, r => by
    simp at e; subst e; cases r; exact ⟨[], .nil, rfl, Nat.zero_le _⟩
  | v :: l, vs, ds, e, r => by
    cases r with
    | cons r0 r1 =>
      simp only [List.mapM_cons, Option.bind_eq_bind, Option.bind_eq_some_iff] at e
      obtain ⟨d, hd, ds', hds, e⟩ := e
      simp at e; subst e
      obtain ⟨as, h1, h2, h3⟩ := hf v _ d hd r0
      obtain ⟨bs, g1, g2, g3⟩ := mapM_reads hf l _ ds' hds r1
      exact ⟨_, .cons h1 g1, by simp [PyData.canLayAll0, h2, g2], by simp only [PyData.depthAll]; omega⟩

theorem toD_reads {ρ : List Addr} {σ : H} {h : Heap} (hr : HR K ρ σ h) : ∀ (f : Nat) (v : V) (cv : Value) (d : PyData), toD f σ v = some d → RV K ρ h v cv → ∃ as, Reads h cv d as ∧ d.canLay0 = true ∧ d.depth ≤ f
  | 0, v, cv, d, e, r => by simp [toD] at e
  | f + 1, v, cv, d, e, r => by
    have ih := toD_reads hr f
    cases r with
    | none => simp [toD] at e; subst e; exact ⟨[], .none, rfl, Nat.zero_le _⟩
    | bool b => simp [toD] at e; subst e; exact ⟨[], .bool b, rfl, Nat.zero_le _⟩
    | int i t => simp [toD] at e; subst e; exact ⟨[], .int i t, rfl, Nat.zero_le _⟩
    | str s t =>
      simp only [toD] at e
      split at e
      · rename_i hs; cases e; exact ⟨[], .str s t, by simpa [PyData.canLay0] using hs, Nat.zero_le _⟩
      · cases e
    | tup ha rs hn =>
      simp only [toD, Option.map_eq_some_iff] at e
      obtain ⟨ds, h1, rfl⟩ := e
      obtain ⟨as, g1, g2, g3⟩ := mapM_reads (fun v cv d => ih v cv d) _ _ ds h1 rs
      exact ⟨as, .tuple ha rfl rfl (by simpa using g1), by simpa [PyData.canLay0] using g2, by simp only [PyData.depth]; omega⟩
    | obj ha =>
      simp only [toD] at e
      split at e
      · rename_i l hl
        simp only [Option.map_eq_some_iff] at e
        obtain ⟨ds, h1, rfl⟩ := e
        obtain ⟨vs, n, e1, rs, _⟩ := hr.obj _ _ _ hl ha
        obtain ⟨as, g1, g2, g3⟩ := mapM_reads (fun v cv d => ih v cv d) _ _ ds h1 rs
        exact ⟨_, .list e1 rfl rfl (by simpa using g1), by simpa [PyData.canLay0] using g2, by simp only [PyData.depth]; omega⟩
      · cases e
    | ty t => simp [toD] at e
    | frz _ _ _ => simp [toD] at e

theorem eqV_inv {σ : H} {x y : V} {b : Bool} (e : eqV σ x y = some b) : ∃ dx dy, toD 6 σ x = some dx ∧ toD 6 σ y = some dy ∧ b = PyData.eqv dx dy := by
  unfold eqV at e
  split at e
  · rename_i h1 h2; cases e; exact ⟨_, _, h1, h2, rfl⟩
  · cases e

theorem items_inv {ρ : List Addr} {σ : H} {h : Heap} (hr : HR K ρ σ h) {v : V} {x : Value} {l : List V} (e : items σ v = some l) (r : RV K ρ h v x) :
    ∃ a vs, x = .ref a ∧ ((∃ n, h.get? a = some (listObj vs n)) ∨ h.get? a = some (tupObj vs)) ∧ RVs K ρ h l vs ∧ l.length ≤ lenMax := by
  cases v with
  | obj n =>
    obtain ⟨a, vs, n', h1, h2, h3⟩ := listOf_inv hr (l := l) (show listOf σ (.obj n) = some l from e) r
    exact ⟨a, vs, h1, .inl ⟨n', h2⟩, h3⟩
  | frz l' =>
    obtain ⟨a, vs, n', h1, h2, h3⟩ := listOf_inv hr (l := l) (show listOf σ (.frz l') = some l from e) r
    exact ⟨a, vs, h1, .inl ⟨n', h2⟩, h3⟩
  | tup l' =>
    cases r with
    | tup ha rs hn => cases e; exact ⟨_, _, rfl, .inr ha, rs, hn⟩
  | _ => cases e

theorem isV_inv {x y : V} {b : Bool} (e : isV x y = some b) {ρ : List Addr} {h : Heap} {cx cy : Value} (rx : RV K ρ h x cx) (ry : RV K ρ h y cy) : plainIs cx cy = true ∧ (cx == cy) = b := by
  unfold isV at e
  split at e <;> first
    | (cases e; done)
    | (cases rx; cases ry; cases e; exact ⟨rfl, by first | rfl | (rw [Bool.eq_iff_iff]; simp)⟩)

theorem cmpop_sound {op : Cop} {x y : V} {b : Bool} {σ : H} (h : cmpop op x y σ = some b) {ρ : List Addr} {s : Shared} {cx cy : Value} (hr : HR K ρ σ s.heap) (rx : RV K ρ s.heap x cx) (ry : RV K ρ s.heap y cy)
    {o : CmpOp} (ho : cCop o = op) (hu : A.units + 16 < cLine) {Q : Value → Shared → Prop} {E : Value → Shared → Prop} (hq : Q (.bool b) s) : wpAny K.M A (compareOp o cx cy) Q E s := by
  have hmin : ∀ {a b : Nat}, a ≤ 6 → min a b ≤ 6 := fun h => Nat.le_trans (Nat.min_le_left _ _) h
  unfold cmpop at h
  split at h
  · cases o <;> simp [cCop] at ho
    obtain ⟨dx, dy, h1, h2, rfl⟩ := eqV_inv h
    obtain ⟨as, g1, g2, g3⟩ := toD_reads hr 6 _ _ _ h1 rx
    obtain ⟨bs, k1, k2, k3⟩ := toD_reads hr 6 _ _ _ h2 ry
    exact compareEq_reads g1 k1 g2 k2 (by have := hmin (b := dy.depth) g3; omega) hq
  · cases o <;> simp [cCop] at ho
    obtain ⟨b', hb', rfl⟩ := Option.map_eq_some_iff.mp h
    obtain ⟨dx, dy, h1, h2, rfl⟩ := eqV_inv hb'
    obtain ⟨as, g1, g2, g3⟩ := toD_reads hr 6 _ _ _ h1 rx
    obtain ⟨bs, k1, k2, k3⟩ := toD_reads hr 6 _ _ _ h2 ry
    exact compareNe_reads g1 k1 g2 k2 (by have := hmin (b := dy.depth) g3; omega) hq
  · cases o <;> simp [cCop] at ho
    split at h
    · cases rx; cases ry; cases h; exact lt_int hq
    · cases rx with
      | tup e1 r1 _ => cases ry with
        | tup e2 r2 _ =>
          exact richCompare_meets_room (op := .Lt) ⟨_, e1, rfl⟩ ⟨_, e2, rfl⟩ F.slot_tuple_lt F.entry_tuple_lt (F.args_tuple_lt_2 _ _) (tuple_ltM _ _ _ _ _ _ ρ b h) ⟨e1, e2, r1, r2, ⟨(fun x => nomatch x), hq⟩⟩ (by omega)
    · cases h
  · cases o <;> simp [cCop] at ho
    split at h
    · cases rx; cases ry; cases h; exact gt_int hq
    · cases rx with
      | tup e1 r1 _ => cases ry with
        | tup e2 r2 _ =>
          exact richCompare_meets_room (op := .Gt) ⟨_, e1, rfl⟩ ⟨_, e2, rfl⟩ F.slot_tuple_gt F.entry_tuple_gt (F.args_tuple_gt_2 _ _) (tuple_gtM _ _ _ _ _ _ ρ b h) ⟨e1, e2, r1, r2, ⟨(fun x => nomatch x), hq⟩⟩ (by omega)
    · cases h
  · cases o <;> simp [cCop] at ho
    split at h
    · cases rx; cases ry; cases h; exact le_int hq
    · cases h
  · cases o <;> simp [cCop] at ho
    split at h
    · cases rx; cases ry; cases h; exact ge_int hq
    · cases h
  · cases o <;> simp [cCop] at ho
    obtain ⟨h1, h2⟩ := isV_inv h rx ry
    exact wpAny_is_plain h1 (h2 ▸ hq)
  · cases o <;> simp [cCop] at ho
    obtain ⟨b', hb', rfl⟩ := Option.map_eq_some_iff.mp h
    obtain ⟨h1, h2⟩ := isV_inv hb' rx ry
    exact wpAny_isNot_plain h1 (h2 ▸ hq)
  · cases o <;> simp [cCop] at ho
    obtain ⟨l, hl, hi⟩ := Option.bind_eq_some_iff.mp h
    unfold inV at hi
    split at hi
    · rename_i ds d hd1 hd2
      cases hi
      obtain ⟨a, vs, rfl, hobj, rs, _⟩ := items_inv hr hl ry
      obtain ⟨as, g1, g2, g3⟩ := mapM_reads (toD_reads hr 6) _ _ _ hd1 rs
      obtain ⟨bs, k1, k2, k3⟩ := toD_reads hr 6 _ _ _ hd2 rx
      have hu' : A.units + 1 + min (PyData.depthAll ds) d.depth < cLine := by have := hmin (b := d.depth) g3; omega
      rcases hobj with ⟨n, e⟩ | e
      · exact in_list_reads (.list e rfl rfl (by simpa using g1)) k1 g2 k2 hu' hq
      · exact in_tuple_reads (.tuple e rfl rfl (by simpa using g1)) k1 g2 k2 hu' hq
    · cases hi
  · cases o <;> simp [cCop] at ho
    obtain ⟨b', hb', rfl⟩ := Option.map_eq_some_iff.mp h
    obtain ⟨l, hl, hi⟩ := Option.bind_eq_some_iff.mp hb'
    unfold inV at hi
    split at hi
    · rename_i ds d hd1 hd2
      cases hi
      obtain ⟨a, vs, rfl, hobj, rs, _⟩ := items_inv hr hl ry
      obtain ⟨as, g1, g2, g3⟩ := mapM_reads (toD_reads hr 6) _ _ _ hd1 rs
      obtain ⟨bs, k1, k2, k3⟩ := toD_reads hr 6 _ _ _ hd2 rx
      have hu' : A.units + 1 + min (PyData.depthAll ds) d.depth < cLine := by have := hmin (b := d.depth) g3; omega
      rcases hobj with ⟨n, e⟩ | e
      · exact notIn_list_reads (.list e rfl rfl (by simpa using g1)) k1 g2 k2 hu' hq
      · exact notIn_tuple_reads (.tuple e rfl rfl (by simpa using g1)) k1 g2 k2 hu' hq
    · cases hi
end
end Mini

/-! Items and slices. -/
set_option autoImplicit false
namespace Mini
open PySem PyProof.Rows PySem.SeqAt

theorem idxN_lt {i : Int} {n k : Nat} (h : idxN i n = some k) : k < n ∧ -(n : Int) ≤ i ∧ i < n ∧ (if 0 ≤ i then k = i.toNat else k = (i + n).toNat) := by
  unfold idxN at h
  split at h
  · rename_i h0
    split at h
    · cases h; rw [if_pos h0]; refine ⟨by omega, by omega, by omega, rfl⟩
    · cases h
  · rename_i h0
    split at h
    · cases h; rw [if_neg h0]; refine ⟨by omega, by omega, by omega, rfl⟩
    · cases h
theorem idxN_seq {i : Int} {n k : Nat} (h : idxN i n = some k) : seqIndex? i n = some k := by
  obtain ⟨h1, h2, h3, h4⟩ := idxN_lt h
  unfold seqIndex?
  by_cases h0 : 0 ≤ i
  · rw [if_pos h0] at h4
    have hn : ¬ i < 0 := by omega
    simp only [hn, if_false]
    rw [if_pos (by simp only [Bool.and_eq_true, decide_eq_true_eq]; omega), h4]
  · rw [if_neg h0] at h4
    have hn : i < 0 := by omega
    simp only [hn, if_true]
    rw [if_pos (by simp only [Bool.and_eq_true, decide_eq_true_eq]; omega), h4]

theorem clampS_clip (i : Int) (n : Nat) : clampS i n = clipAt n i := by
  have h := clipAt_cast n i
  unfold clampS
  split at h <;> split <;> omega

section
variable {K : Kx} {A : Around} {env : Env}

/-- the tail of a subscription of a built-in sequence -/
theorem sub_tail {value slice : Expr} {o i : Value} {T id : String} {Q : Value → Shared → Prop} {E : Value → Shared → Prop} {s : Shared} (hT : s.TypeIs o T)
    (hl : typeLookup (.type T) "__getitem__" = pure (some (.builtin id))) (h : wpAny K.M A (getItem o i) Q E s) : wpAny K.M A (subscriptTail value slice o i) Q E s := by
  unfold subscriptTail
  refine wpAny_bind ?_
  rw [getitemInPython_of_ne hT.not_modules]
  refine wpAny_bind (wpAny_specialOf hT hl ?_)
  have fin : wpAny K.M A (subscripted slice false o i) (fun r s₃ => wpAny K.M A (letTemporaryGo value o r >>= fun _ => pure r) Q E s₃) E s := by
    have k : wpAny K.M A (getItem o i) (fun r s₃ => wpAny K.M A (letTemporaryGo value o r >>= fun _ => pure r) Q E s₃) E s :=
      wpAny_mono h (fun r s₃ h₃ => wpAny_bind (wpAny_letTemporaryGo (wpAny_pure h₃))) fun _ _ x => x
    unfold subscripted
    split
    · exact wpAny_operating k
    · rename_i hb; cases hb
    · exact wpAny_operating k
  first
    | exact wpAny_pure (wpAny_bind fin)
    | exact wpAny_bind (wpAny_pure (wpAny_bind fin))
    | exact wpAny_bind fin

theorem getIdx_sound {σ : H} {x y v : V} (h : getIdx σ x y = some v) {ρ : List Addr} {s : Shared} {cx cy : Value} (hr : HR K ρ σ s.heap) (rx : RV K ρ s.heap x cx) (ry : RV K ρ s.heap y cy)
    {value slice : Expr} : TR K A (subscriptTail value slice cx cy) ρ s σ fun ρ' cv s' => RV K ρ' s'.heap v cv := by
  unfold getIdx at h
  split at h
  · rename_i k
    obtain ⟨l, hl, h⟩ := Option.bind_eq_some_iff.mp h
    obtain ⟨j, hj, hv⟩ := Option.bind_eq_some_iff.mp h
    obtain ⟨a, vs, rfl, hobj, rs, hlen⟩ := items_inv hr hl rx
    obtain ⟨cv, hc, rv⟩ := rs.get hv
    have hlv := rs.length
    obtain ⟨h1, h2, h3, h4⟩ := idxN_lt hj
    unfold lenMax at hlen
    cases ry
    rcases hobj with ⟨n, e⟩ | e
    · have hL : s.heap.IsList a vs.toArray := ⟨_, e, rfl, n, rfl⟩
      refine sub_tail hL.typeIs slot_list_getitem.lookup ?_
      split at h4
      · rename_i h0
        refine wpAny_getItem_list hL h0 (by omega) (x := cv) (by subst h4; simpa using hc) ⟨ρ, Good.refl hr, rv⟩
      · rename_i h0
        refine wpAny_getItem_list_neg hL (by omega) (by simp; omega) (by omega) (x := cv) (by subst h4; simp; rw [← hlv]; exact hc) ⟨ρ, Good.refl hr, rv⟩
    · refine sub_tail (T := "tuple") ⟨_, e, rfl⟩ PySem.F.slot_tuple_getitem.lookup ?_
      refine getItem_meets ⟨_, e, rfl⟩ (by decide) F.slot_tuple_getitem F.entry_tuple_getitem (F.args_tuple_getitem_2 _ _) (MeetsSeq.tuple_getitem_at a vs.toArray 0 k _ j cv (by omega) (by omega) (by simpa [← hlv] using idxN_seq hj) (by simpa using hc)) ⟨e, ρ, Good.refl hr, rv⟩
  · cases h

/-- a bound of a slice -/
theorem part_of {ρ : List Addr} {h : Heap} {v : V} {x : Value} (r : RV K ρ h v x) : (v = .none → IsPart x none) ∧ (∀ i, v = .int i → IsPart x (some i)) := by
  cases r with
  | none => exact ⟨fun _ => .none, fun i h => nomatch h⟩
  | int i t => exact ⟨fun h => (nomatch h), fun j h => by cases h; exact .int i t⟩
  | _ => exact ⟨fun h => (nomatch h), fun i h => nomatch h⟩

theorem RVs.evens {ρ : List Addr} {h : Heap} : ∀ {l : List V} {vs : List Value}, RVs K ρ h l vs → RVs K ρ h (evens l) (evens vs)
  | _, _, .nil => .nil
  | _, _, .cons a .nil => .cons a .nil
  | _, _, .cons a (.cons _ r) => .cons a (RVs.evens r)

theorem evens_len {α : Type} : ∀ l : List α, (evens l).length ≤ l.length
  | [] => Nat.le_refl _
  | [_] => Nat.le_refl _
  | _ :: _ :: r => by have := evens_len r; simp only [evens, List.length_cons]; omega
theorem evens_pick {α : Type} (xs : Array α) : ∀ (n a : Nat), n = (xs.size - a + 1) / 2 → ((List.range n).map fun k => a + k * 2).filterMap (xs[·]?) = evens (xs.toList.drop a) := by
  intro n
  induction n with
  | zero =>
    intro a h
    have : xs.toList.drop a = [] := by rw [List.drop_eq_nil_iff]; simp; omega
    rw [this]; rfl
  | succ n ih =>
    intro a h
    have ha : a < xs.size := by omega
    have e1 : xs.toList.drop a = xs[a] :: xs.toList.drop (a + 1) := by rw [List.drop_eq_getElem_cons (by simpa using ha)]; simp
    rw [List.range_succ_eq_map, List.map_cons, List.filterMap_cons]
    have h0 : xs[a + 0 * 2]? = some xs[a] := by simp [ha]
    rw [h0, e1]
    have ih' := ih (a + 2) (by omega)
    have hm : ((List.map Nat.succ (List.range n)).map fun k => a + k * 2) = (List.range n).map fun k => a + 2 + k * 2 := by
      rw [List.map_map]; apply List.map_congr_left; intro k _; simp; omega
    rw [hm, ih']
    by_cases h2 : a + 1 < xs.size
    · have e2 : xs.toList.drop (a + 1) = xs[a + 1] :: xs.toList.drop (a + 2) := by rw [List.drop_eq_getElem_cons (by simpa using h2)]; simp
      rw [e2]; rfl
    · have e2 : xs.toList.drop (a + 1) = [] := by rw [List.drop_eq_nil_iff]; simp; omega
      have e3 : xs.toList.drop (a + 2) = [] := by rw [List.drop_eq_nil_iff]; simp; omega
      rw [e2, e3]; rfl

theorem slicePick_evens (items : Array Value) (i : Int) : slicePick items (some i) none (some 2) = (evens (items.toList.drop (clipAt items.size i))).toArray := by
  unfold slicePick
  have hb : sliceBounds (some i) none (some 2) items.size = (((clipAt items.size i : Nat) : Int), ((items.size : Nat) : Int), 2) := by
    simp [sliceBounds, clipAt_cast]
  rw [hb]
  have hle : clipAt items.size i ≤ items.size := by have := clipAt_cast items.size i; omega
  congr 1
  unfold sliceRange
  dsimp only
  have hc : (if (2 : Int) > 0 then (if ((clipAt items.size i : Nat) : Int) < (items.size : Int) then (((items.size : Nat) : Int) - ((clipAt items.size i : Nat) : Int) + 2 - 1) / 2 else 0)
      else (if ((clipAt items.size i : Nat) : Int) > (items.size : Int) then (((clipAt items.size i : Nat) : Int) - ((items.size : Nat) : Int) - 2 - 1) / (-2) else 0)).toNat = (items.size - clipAt items.size i + 1) / 2 := by
    rw [if_pos (by decide)]
    split <;> omega
  rw [hc, ← evens_pick items _ (clipAt items.size i) rfl]
  congr 1
  apply List.map_congr_left
  intro k _
  omega

theorem sliceL_pick {l r : List V} {lo hi st : V} (e : sliceL l lo hi st = some r) {ρ : List Addr} {h : Heap} {vs : List Value} {cl cu cs : Value} (rv : RVs K ρ h l vs) (rl : RV K ρ h lo cl) (ru : RV K ρ h hi cu) (rs : RV K ρ h st cs) :
    ∃ a b c, IsPart cl a ∧ IsPart cu b ∧ IsPart cs c ∧ c ≠ some 0 ∧ r.length ≤ l.length ∧ ∃ ws : List Value, slicePick vs.toArray a b c = ws.toArray ∧ RVs K ρ h r ws := by
  have hlen := rv.length
  unfold sliceL at e
  split at e
  · cases e
    exact ⟨none, none, none, (part_of rl).1 rfl, (part_of ru).1 rfl, (part_of rs).1 rfl, by simp, Nat.le_refl _, vs, by rw [slicePick_all], rv⟩
  · rename_i a
    cases e
    refine ⟨some a, none, none, (part_of rl).2 _ rfl, (part_of ru).1 rfl, (part_of rs).1 rfl, by simp, by simp, vs.drop (clampS a l.length), ?_, rv.drop _⟩
    rw [slicePick_plain, clampS_clip, hlen]
    simp
    rw [List.take_of_length_le (by simp)]
  · rename_i b
    cases e
    refine ⟨none, some b, none, (part_of rl).1 rfl, (part_of ru).2 _ rfl, (part_of rs).1 rfl, by simp, by simp; omega, vs.take (clampS b l.length), ?_, rv.take _⟩
    rw [slicePick_plain, clampS_clip, hlen]
    simp
  · rename_i a b
    cases e
    refine ⟨some a, some b, none, (part_of rl).2 _ rfl, (part_of ru).2 _ rfl, (part_of rs).1 rfl, by simp, by simp; omega, (vs.take (clampS b l.length)).drop (clampS a l.length), ?_, (rv.take _).drop _⟩
    rw [slicePick_plain, clampS_clip, clampS_clip, hlen]
    simp [List.drop_take]
  · rename_i a
    cases e
    refine ⟨some a, none, some 2, (part_of rl).2 _ rfl, (part_of ru).1 rfl, (part_of rs).2 _ rfl, by simp, ?_, evens (vs.drop (clampS a l.length)), ?_, (rv.drop _).evens⟩
    · refine Nat.le_trans (evens_len _) (by simp)
    · rw [slicePick_evens, clampS_clip, hlen]; simp
  · cases e

theorem slice_sound {σ σ' : H} {x lo hi st v : V} (h : sliceV σ x lo hi st = some (v, σ')) {ρ : List Addr} {s : Shared} {cx cl cu cs : Value} {sl : Addr} (hr : HR K ρ σ s.heap) (rx : RV K ρ s.heap x cx)
    (rl : RV K ρ s.heap lo cl) (ru : RV K ρ s.heap hi cu) (rs : RV K ρ s.heap st cs) (hsl : s.heap.IsSliceOf sl cl cu cs) {value slice : Expr} :
    TR K A (subscriptTail value slice cx (.ref sl)) ρ s σ' fun ρ' cv s' => RV K ρ' s'.heap v cv := by
  have main : ∀ l, listOf σ x = some l → (sliceL l lo hi st).bind (mkList σ) = some (v, σ') → TR K A (subscriptTail value slice cx (.ref sl)) ρ s σ' fun ρ' cv s' => RV K ρ' s'.heap v cv := by
    intro l hl h
    obtain ⟨r, h1, h2⟩ := Option.bind_eq_some_iff.mp h
    obtain ⟨hlen, rfl, rfl⟩ := mkList_inv h2
    obtain ⟨a, vs, n, rfl, e, rv, hn⟩ := listOf_inv hr hl rx
    have hL : s.heap.IsList a vs.toArray := ⟨_, e, rfl, n, rfl⟩
    obtain ⟨pa, pb, pc, p1, p2, p3, p4, p5, ws, hw, rw'⟩ := sliceL_pick h1 rv rl ru rs
    refine sub_tail hL.typeIs slot_list_getitem.lookup (wpAny_getItem_list_slice hL hsl p1 p2 p3 p4 ?_ (by have := list_len rv hn; simpa using this))
    rw [hw]
    obtain ⟨g, rr⟩ := good_list (n := 0) hr rw' hlen s.toks
    exact ⟨_, g, rr⟩
  unfold sliceV at h
  split at h
  · split at h
    · rename_i l hl; exact main l hl h
    · cases h
  · exact main _ rfl h
  · cases h
end
end Mini

/-! Built-in functions, sorted apart. -/
set_option autoImplicit false
namespace Mini
open PySem PyProof.Rows PySem.SeqAt

/-- room for calls to come: d frames deep -/
structure Rm (d : Nat) (A : Around) : Prop where
  handled : A.handled = none
  depth : A.depth + d < recursionLimit
  units : A.units + 4 * d + 40 < cLine

theorem Rm.deeper {d : Nat} {A : Around} (r : Rm (d + 1) A) (env : Env) : Rm d (A.deeper env) :=
  ⟨r.handled, by have := r.depth; show A.depth + 1 + d < _; omega, by have := r.units; show A.units + 3 + 4 * d + 40 < _; omega⟩

structure TyOK (K : Kx) : Prop where
  int : K.tyv 0 = .type "int"
  bool : K.tyv 1 = .type "bool"
  tuple : K.tyv 2 = .type "tuple"
  list : K.tyv 3 = .type "list"

theorem maxI_spec : ∀ (l : List Int) (m : Int), (maxI l m = m ∨ maxI l m ∈ l) ∧ m ≤ maxI l m ∧ ∀ a ∈ l, a ≤ maxI l m
  | [], m => ⟨.inl rfl, Int.le_refl _, fun _ h => nomatch h⟩
  | x :: r, m => by
    obtain ⟨h1, h2, h3⟩ := maxI_spec r (if m < x then x else m)
    have e : maxI (x :: r) m = maxI r (if m < x then x else m) := rfl
    rw [e]
    generalize maxI r (if m < x then x else m) = y at *
    split at h1 <;> split at h2 <;> simp_all <;> first | omega | (refine ⟨?_, ?_⟩ <;> first | omega | (rcases h1 with h1 | h1 <;> simp_all))
theorem minI_spec : ∀ (l : List Int) (m : Int), (minI l m = m ∨ minI l m ∈ l) ∧ minI l m ≤ m ∧ ∀ a ∈ l, minI l m ≤ a
  | [], m => ⟨.inl rfl, Int.le_refl _, fun _ h => nomatch h⟩
  | x :: r, m => by
    obtain ⟨h1, h2, h3⟩ := minI_spec r (if x < m then x else m)
    have e : minI (x :: r) m = minI r (if x < m then x else m) := rfl
    rw [e]
    generalize minI r (if x < m then x else m) = y at *
    split at h1 <;> split at h2 <;> simp_all <;> first | omega | (refine ⟨?_, ?_⟩ <;> first | omega | (rcases h1 with h1 | h1 <;> simp_all))

section
variable {K : Kx} {A : Around}

theorem ints_items {ρ : List Addr} {h : Heap} : ∀ {l : List V} {ns : List Int} {vs : List Value}, asInts l = some ns → RVs K ρ h l vs → ∃ ys : List (Int × Tok), vs = ys.map (fun p => Value.int p.1 p.2) ∧ ys.map (·.1) = ns
  | [], ns, vs, e, r => by cases e; cases r; exact ⟨[], rfl, rfl⟩
  | v :: l, ns, vs, e, r => by
    cases r with
    | cons r0 r1 =>
      cases v with
      | int i =>
        cases r0
        simp only [asInts, Option.map_eq_some_iff] at e
        obtain ⟨ns', h1, rfl⟩ := e
        obtain ⟨ys, rfl, h2⟩ := ints_items h1 r1
        exact ⟨(i, _) :: ys, rfl, by rw [List.map_cons, h2]⟩
      | _ => cases e

theorem numAt_map {ys : List (Int × Tok)} {i : Nat} : numAt ys.toArray i = ((ys.map (·.1))[i]?).getD 0 := by
  unfold numAt; simp

theorem preSum_list (ns : List Int) : preSum (fun i => (ns[i]?).getD 0) ns.length = ns.sum := by
  have : ∀ k, k ≤ ns.length → preSum (fun i => (ns[i]?).getD 0) k = (ns.take k).sum := by
    intro k
    induction k with
    | zero => intro _; simp [preSum]
    | succ k ih =>
      intro hk
      have hlt : k < ns.length := by omega
      rw [preSum, ih (by omega), List.take_succ_eq_append_getElem hlt, List.sum_append]
      simp [hlt]
  rw [this _ (Nat.le_refl _), List.take_length]

/-- isinstance against int, bool, tuple, list -/
theorem isi_sound {σ : H} {x : V} {t : Nat} {r : Bool} (h : isiV σ x t = some r) {ρ : List Addr} {s : Shared} {cx : Value} (hr : HR K ρ σ s.heap) (rx : RV K ρ s.heap x cx) (ty : TyOK K) :
    TR K A (call (.builtin "isinstance") [cx, K.tyv t]) ρ s σ fun ρ' cv s' => RV K ρ' s'.heap (.bool r) cv := by
  have ok : (∃ ρ', Good K ρ s ρ' σ s ∧ RV K ρ' s.heap (.bool r) (.bool r)) := ⟨ρ, Good.refl hr, .bool r⟩
  have ok1 : ∀ tk, (∃ ρ', Good K ρ s ρ' σ { s with toks := tk } ∧ RV K ρ' s.heap (.bool r) (.bool r)) := fun tk => ⟨ρ, (Good.refl hr).tok _, .bool r⟩
  have four : t ≤ 3 → t = 0 ∨ t = 1 ∨ t = 2 ∨ t = 3 := by omega
  cases x with
  | int i =>
    cases rx
    simp only [isiV] at h
    split at h
    · rename_i e; subst e; cases h; rw [ty.int]; exact IsiPair.int_int ok
    · split at h
      · rename_i e; cases h
        rcases e with rfl | rfl | rfl
        · rw [ty.bool]; exact IsiPair.int_bool (ok1 _)
        · rw [ty.tuple]; exact IsiPair.int_tuple (ok1 _)
        · rw [ty.list]; exact IsiPair.int_list (ok1 _)
      · cases h
  | bool b =>
    cases rx
    simp only [isiV] at h
    split at h
    · rename_i e; cases h
      rcases e with rfl | rfl
      · rw [ty.int]; exact IsiPair.bool_int ok
      · rw [ty.bool]; exact IsiPair.bool_bool ok
    · split at h
      · rename_i e; cases h
        rcases e with rfl | rfl
        · rw [ty.tuple]; exact IsiPair.bool_tuple (ok1 _)
        · rw [ty.list]; exact IsiPair.bool_list (ok1 _)
      · cases h
  | tup l =>
    cases rx with
    | tup e0 _ _ =>
      simp only [isiV] at h
      split at h
      · rename_i e; subst e; cases h; rw [ty.tuple]; exact IsiPair.tuple_tuple e0 rfl ok
      · split at h
        · rename_i e; cases h
          rcases e with rfl | rfl | rfl
          · rw [ty.int]; exact IsiPair.tuple_int e0 rfl (ok1 _)
          · rw [ty.bool]; exact IsiPair.tuple_bool e0 rfl (ok1 _)
          · rw [ty.list]; exact IsiPair.tuple_list e0 rfl (ok1 _)
        · cases h
  | none =>
    cases rx
    simp only [isiV] at h
    split at h
    · rename_i e; cases h
      rcases four e with rfl | rfl | rfl | rfl
      · rw [ty.int]; exact IsiPair.NoneType_int (ok1 _)
      · rw [ty.bool]; exact IsiPair.NoneType_bool (ok1 _)
      · rw [ty.tuple]; exact IsiPair.NoneType_tuple (ok1 _)
      · rw [ty.list]; exact IsiPair.NoneType_list (ok1 _)
    · cases h
  | str s =>
    cases rx
    simp only [isiV] at h
    split at h
    · rename_i e; cases h
      rcases four e with rfl | rfl | rfl | rfl
      · rw [ty.int]; exact IsiPair.str_int (ok1 _)
      · rw [ty.bool]; exact IsiPair.str_bool (ok1 _)
      · rw [ty.tuple]; exact IsiPair.str_tuple (ok1 _)
      · rw [ty.list]; exact IsiPair.str_list (ok1 _)
    · cases h
  | obj n =>
    cases rx with
    | obj ha =>
      simp only [isiV] at h
      split at h
      · rename_i l hl
        obtain ⟨vs, n', e0, _⟩ := hr.obj _ _ _ hl ha
        split at h
        · rename_i e; subst e; cases h; rw [ty.list]; exact IsiPair.list_list e0 rfl ok
        · split at h
          · rename_i e e'; cases h
            rcases four (by omega) with rfl | rfl | rfl | rfl
            · rw [ty.int]; exact IsiPair.list_int e0 rfl (ok1 _)
            · rw [ty.bool]; exact IsiPair.list_bool e0 rfl (ok1 _)
            · rw [ty.tuple]; exact IsiPair.list_tuple e0 rfl (ok1 _)
            · exact absurd rfl e
          · cases h
      · rename_i c d hl; exact (hr.obj _ _ _ hl ha).elim
      · rename_i c hl; exact (hr.obj _ _ _ hl ha).elim
      · cases h
  | ty t => cases h
  | frz l => cases h

theorem blt_sound {b : Blt} {as : List V} {v : V} {σ σ' : H} (h : bltV b as σ = some (v, σ')) (hb : b ≠ .sorted) {ρ : List Addr} {s : Shared} {cas : List Value} (hr : HR K ρ σ s.heap) (ra : RVs K ρ s.heap as cas) (hh : A.handled = none) (ty : TyOK K) :
    TR K A (call (bltVal b) cas) ρ s σ' fun ρ' cv s' => RV K ρ' s'.heap v cv := by
  unfold bltV at h
  split at h
  · -- len
    obtain ⟨l, hl, e⟩ := Option.map_eq_some_iff.mp h
    cases e
    cases ra with
    | cons r0 rn =>
      cases rn
      obtain ⟨a, vs, rfl, hobj, rs, hlen⟩ := items_inv hr hl r0
      unfold lenMax at hlen
      have hlv := rs.length
      have e : (Value.int ((vs.toArray.size : Nat) : Int) (s.toks + 1)) = .int ((l.length : Nat) : Int) (s.toks + 1) := by rw [hlv]; simp
      rcases hobj with ⟨n, e0⟩ | e0
      · refine Calls.call_len_list ⟨_, e0, rfl, n, rfl⟩ (by simp; omega) ?_
        rw [e]; exact ⟨ρ, (Good.refl hr).tok _, .int _ _⟩
      · refine len_tuple ⟨_, e0, rfl, 0, rfl⟩ (by simp; omega) ?_
        rw [e]; exact ⟨ρ, (Good.refl hr).tok _, .int _ _⟩
  · -- max of two
    cases h
    cases ra with
    | cons r0 rn => cases rn with
      | cons r1 rn =>
        cases rn; cases r0; cases r1
        refine max_two_ints hh fun h' tk hk => ⟨ρ, Good.grow hr hk _, ?_⟩
        split <;> exact .int _ _
  · cases h
    cases ra with
    | cons r0 rn => cases rn with
      | cons r1 rn =>
        cases rn; cases r0; cases r1
        refine min_two_ints hh fun h' tk hk => ⟨ρ, Good.grow hr hk _, ?_⟩
        split <;> exact .int _ _
  · split at h
    · rename_i n x r hi
      cases h
      obtain ⟨l, hl, hn⟩ := Option.bind_eq_some_iff.mp hi
      cases ra with
      | cons r0 rn =>
        cases rn
        obtain ⟨a, vs, n', rfl, e0, rs, hlen⟩ := listOf_inv hr hl r0
        obtain ⟨ys, rfl, hy⟩ := ints_items hn rs
        have hne : 0 < ys.toArray.size := by have := congrArg List.length hy; simp at this ⊢; omega
        refine max_intList (xs := ys.toArray) hh ⟨_, e0, rfl, n', by simp [intItems]⟩ hne fun v h' tk hv hk => ⟨ρ, Good.grow hr hk _, ?_⟩
        obtain ⟨t, rfl⟩ := intItems_at hv
        obtain ⟨h1, h2⟩ := argBest_gt (numAt ys.toArray) (ys.toArray.size - 1)
        obtain ⟨m1, m2, m3⟩ := maxI_spec r x
        have e : numAt ys.toArray (argBest (fun i j => decide (numAt ys.toArray i > numAt ys.toArray j)) (ys.toArray.size - 1)) = maxI r x := by
          have hlen2 : ys.toArray.size = r.length + 1 := by have := congrArg List.length hy; simpa using this
          apply Int.le_antisymm
          · rw [numAt_map, hy]
            have hb : argBest (fun i j => decide (numAt ys.toArray i > numAt ys.toArray j)) (ys.toArray.size - 1) < (x :: r).length := by rw [List.length_cons]; omega
            rw [List.getElem?_eq_getElem hb]
            have hm := List.getElem_mem hb
            simp only [Option.getD_some]
            rcases List.mem_cons.mp hm with h | h
            · rw [h]; exact m2
            · exact m3 _ h
          · have : maxI r x ∈ x :: r := by rcases m1 with h | h <;> simp [h]
            obtain ⟨j, hj, hje⟩ := List.getElem_of_mem this
            have hj' : j ≤ ys.toArray.size - 1 := by simp at hj; omega
            have := h2 j hj'
            rw [numAt_map (i := j), hy, List.getElem?_eq_getElem hj] at this
            simp only [Option.getD_some, hje] at this
            exact this
        rw [e]; exact .int _ _
    · cases h
  · split at h
    · rename_i n x r hi
      cases h
      obtain ⟨l, hl, hn⟩ := Option.bind_eq_some_iff.mp hi
      cases ra with
      | cons r0 rn =>
        cases rn
        obtain ⟨a, vs, n', rfl, e0, rs, hlen⟩ := listOf_inv hr hl r0
        obtain ⟨ys, rfl, hy⟩ := ints_items hn rs
        have hne : 0 < ys.toArray.size := by have := congrArg List.length hy; simp at this ⊢; omega
        refine min_intList (xs := ys.toArray) hh ⟨_, e0, rfl, n', by simp [intItems]⟩ hne fun v h' tk hv hk => ⟨ρ, Good.grow hr hk _, ?_⟩
        obtain ⟨t, rfl⟩ := intItems_at hv
        obtain ⟨h1, h2⟩ := argBest_lt (numAt ys.toArray) (ys.toArray.size - 1)
        obtain ⟨m1, m2, m3⟩ := minI_spec r x
        have e : numAt ys.toArray (argBest (fun i j => decide (numAt ys.toArray i < numAt ys.toArray j)) (ys.toArray.size - 1)) = minI r x := by
          have hlen2 : ys.toArray.size = r.length + 1 := by have := congrArg List.length hy; simpa using this
          apply Int.le_antisymm
          · have : minI r x ∈ x :: r := by rcases m1 with h | h <;> simp [h]
            obtain ⟨j, hj, hje⟩ := List.getElem_of_mem this
            have hj' : j ≤ ys.toArray.size - 1 := by simp at hj; omega
            have := h2 j hj'
            rw [numAt_map (i := j), hy, List.getElem?_eq_getElem hj] at this
            simp only [Option.getD_some, hje] at this
            exact this
          · rw [numAt_map, hy]
            have hb : argBest (fun i j => decide (numAt ys.toArray i < numAt ys.toArray j)) (ys.toArray.size - 1) < (x :: r).length := by rw [List.length_cons]; omega
            rw [List.getElem?_eq_getElem hb]
            have hm := List.getElem_mem hb
            simp only [Option.getD_some]
            rcases List.mem_cons.mp hm with h | h
            · rw [h]; exact m2
            · exact m3 _ h
        rw [e]; exact .int _ _
    · cases h
  · exact absurd rfl hb
  · -- int of bool
    cases h
    cases ra with
    | cons r0 rn => cases rn; cases r0; exact call_int_bool ⟨ρ, (Good.refl hr).tok _, .int _ _⟩
  · cases h
    cases ra with
    | cons r0 rn => cases rn; cases r0; exact call_int_int ⟨ρ, Good.refl hr, .int _ _⟩
  · -- list
    obtain ⟨l, hl, e⟩ := Option.bind_eq_some_iff.mp h
    obtain ⟨hlen, rfl, rfl⟩ := mkList_inv e
    cases ra with
    | cons r0 rn =>
      cases rn
      obtain ⟨a, vs, n', rfl, e0, rs, _⟩ := listOf_inv hr hl r0
      refine call_list_seq (hsz := by have := list_len rs hlen; simpa using this) a (.inl rfl) e0 rfl rfl fun h' c' hk hD => ?_
      refine ⟨ρ ++ [s.heap.objs.size], Good.alloc (o := .list l) hr hk (get?_size _) ⟨vs, c', hD, rs.mono (List.prefix_append _ _) (fun a vs e => hk _ _ e), hlen⟩ _, .obj ?_⟩
      rw [List.getElem?_append_right (by rw [hr.len]; exact Nat.le_refl _), hr.len]; simp
  · -- sum
    obtain ⟨ns, hi, e⟩ := Option.map_eq_some_iff.mp h
    cases e
    obtain ⟨l, hl, hn⟩ := Option.bind_eq_some_iff.mp hi
    cases ra with
    | cons r0 rn =>
      cases rn
      obtain ⟨a, vs, n', rfl, e0, rs, hlen⟩ := listOf_inv hr hl r0
      obtain ⟨ys, rfl, hy⟩ := ints_items hn rs
      refine sum_intListG (xs := ys.toArray) hh ⟨_, e0, rfl, n', by simp [intItems]⟩ fun h' tk t' hk => ⟨ρ, Good.grow hr hk _, ?_⟩
      have e : preSum (numAt ys.toArray) ys.toArray.size = ns.sum := by
        have e1 : numAt ys.toArray = fun i => (ns[i]?).getD 0 := by funext i; rw [numAt_map, hy]
        have e2 : ys.toArray.size = ns.length := by rw [← hy]; simp
        rw [e1, e2, preSum_list]
      rw [e]; exact .int _ _
  · -- isinstance
    obtain ⟨r, hi, e⟩ := Option.map_eq_some_iff.mp h
    cases e
    cases ra with
    | cons r0 rn => cases rn with
      | cons r1 rn =>
        cases rn; cases r1
        exact isi_sound hi hr r0 ty
  · cases h
end
end Mini

/-! Steps that spare private objects; stores of names; iterators. -/
set_option autoImplicit false
namespace Mini
open PySem PyProof.Rows PySem.SeqAt

/-- a step that may change the objects of X besides -/
structure StepX (X : List Addr) (ρ : List Addr) (s : Shared) (ρ' : List Addr) (s' : Shared) : Prop where
  pre : ρ <+: ρ'
  fr : ∀ b o, s.heap.get? b = some o → b ∉ ρ → b ∉ X → s'.heap.get? b = some o
  fresh : ∀ a, a ∈ ρ' → a ∈ ρ ∨ s.heap.get? a = none
  gens : s'.gens = s.gens
  os : s'.os = s.os

theorem Step.toX {ρ ρ' : List Addr} {s s' : Shared} (x : Step ρ s ρ' s') (X : List Addr) : StepX X ρ s ρ' s' := ⟨x.pre, fun b o e h _ => x.fr b o e h, x.fresh, x.gens, x.os⟩
theorem StepX.nil {ρ ρ' : List Addr} {s s' : Shared} (x : StepX [] ρ s ρ' s') : Step ρ s ρ' s' := ⟨x.pre, fun b o e h => x.fr b o e h (by simp), x.fresh, x.gens, x.os⟩
theorem StepX.refl (X ρ : List Addr) (s : Shared) : StepX X ρ s ρ s := (Step.refl ρ s).toX X
theorem StepX.trans {X ρ ρ1 ρ2 : List Addr} {s s1 s2 : Shared} (x : StepX X ρ s ρ1 s1) (y : StepX X ρ1 s1 ρ2 s2) (hs : ∀ a ∈ X, ∃ o, s1.heap.get? a = some o) : StepX X ρ s ρ2 s2 where
  pre := x.pre.trans y.pre
  fr := fun b o e hb hx => y.fr b o (x.fr b o e hb hx) (fun h1 => by
    rcases x.fresh b h1 with h | h
    · exact hb h
    · rw [e] at h; cases h) hx
  fresh := fun a ha => by
    rcases y.fresh a ha with h | h
    · exact x.fresh a h
    · by_cases hr : a ∈ ρ
      · exact .inl hr
      · right
        cases hg : s.heap.get? a with
        | none => rfl
        | some o =>
          by_cases hx : a ∈ X
          · obtain ⟨o', e'⟩ := hs a hx; rw [e'] at h; cases h
          · rw [x.fr a o hg hr hx] at h; cases h
  gens := y.gens.trans x.gens
  os := y.os.trans x.os
/-- what is private and was not there at the start need not be spared -/
theorem StepX.hide {X ρ ρ' : List Addr} {s s' : Shared} (x : StepX X ρ s ρ' s') (h : ∀ a ∈ X, s.heap.get? a = none) : Step ρ s ρ' s' :=
  ⟨x.pre, fun b o e hb => x.fr b o e hb (fun hx => by rw [h b hx] at e; cases e), x.fresh, x.gens, x.os⟩

section
variable {K : Kx} {A : Around}

/-- one private object changes -/
theorem HR.but {ρ : List Addr} {σ : H} {h h' : Heap} {I : Addr} (x : HR K ρ σ h) (hI : I ∉ ρ) (h0 : K.h0.get? I = none) (hc : ∀ vs, h.get? I ≠ some (tupObj vs)) (hk : ∀ b o, b ≠ I → h.get? b = some o → h'.get? b = some o) : HR K ρ σ h' := by
  refine ⟨fun b o e => hk b o (by rintro rfl; rw [h0] at e; cases e) (x.keep b o e), x.len, x.nd, x.new, fun n o a h1 h2 => ?_⟩
  have ho := x.obj n o a h1 h2
  have ha : a ≠ I := by rintro rfl; exact hI (List.mem_of_getElem? h2)
  cases o with
  | list l => obtain ⟨vs, m, e, r, hl⟩ := ho; exact ⟨vs, m, hk _ _ ha e, r.mono (List.prefix_refl _) (fun b ws eb => hk _ _ (by rintro rfl; exact hc _ eb) eb), hl⟩
  | _ => exact ho.elim
theorem RV.but {ρ : List Addr} {h h' : Heap} {I : Addr} {v : V} {x : Value} (r : RV K ρ h v x) (hc : ∀ vs, h.get? I ≠ some (tupObj vs)) (hk : ∀ b o, b ≠ I → h.get? b = some o → h'.get? b = some o) : RV K ρ h' v x :=
  r.mono (List.prefix_refl _) fun b ws eb => hk _ _ (by rintro rfl; exact hc _ eb) eb
theorem RVs.but {ρ : List Addr} {h h' : Heap} {I : Addr} {v : List V} {x : List Value} (r : RVs K ρ h v x) (hc : ∀ vs, h.get? I ≠ some (tupObj vs)) (hk : ∀ b o, b ≠ I → h.get? b = some o → h'.get? b = some o) : RVs K ρ h' v x :=
  r.mono (List.prefix_refl _) fun b ws eb => hk _ _ (by rintro rfl; exact hc _ eb) eb

theorem Ns.not_tup {h : Heap} {a : Addr} {m : Str → Option Value} (x : h.Ns a m) : ∀ vs, h.get? a ≠ some (tupObj vs) := by
  intro vs e
  obtain ⟨o, es, ep, e', hd, _⟩ := x
  rw [e] at e'; cases e'; cases hd
theorem IsCell.not_tup {h : Heap} {a : Addr} {v : Option Value} (x : h.IsCell a v) : ∀ vs, h.get? a ≠ some (tupObj vs) := by
  intro vs e
  obtain ⟨o, e', hd⟩ := x
  rw [e] at e'; cases e'; cases hd

/-- the frame's own objects -/
noncomputable def frameX (env : Env) : List Addr := env.locals :: env.cells.map (·.2)

theorem mem_frameX {env : Env} {a : Addr} (h : a ∈ frameX env) : a = env.locals ∨ ∃ x, (x, a) ∈ env.cells := by
  rcases List.mem_cons.mp h with h | h
  · exact .inl h
  · obtain ⟨⟨x, b⟩, h1, rfl⟩ := List.mem_map.mp h; exact .inr ⟨x, h1⟩

theorem lookup_set {ℓ ℓ' : L} {i : Nat} {v : V} (h : setL ℓ i v = some ℓ') : i < ℓ.length ∧ ∀ j : Nat, ℓ'[j]? = if j = i then some (some v) else ℓ[j]? := by
  unfold setL at h
  split at h
  · rename_i hi
    cases h
    refine ⟨hi, fun j => ?_⟩
    by_cases hj : j = i
    · subst hj; simp [hi]
    · rw [if_neg hj, List.getElem?_set_ne (fun e => hj e.symm)]
  · cases h


theorem FO.X_some {env : Env} {c : CEnv} {ℓ : L} {ρ : List Addr} {h : Heap} (x : FO K env c ℓ ρ h) : ∀ a ∈ frameX env, ∃ o, h.get? a = some o := by
  intro a ha
  rcases mem_frameX ha with rfl | ⟨y, hy⟩
  · obtain ⟨m, hn, _⟩ := x.ns; exact Ns.ex hn
  · obtain ⟨_, _, _, o, e, _⟩ := x.cnew y a hy; exact ⟨o, e⟩

theorem FO.X_nt {env : Env} {c : CEnv} {ℓ : L} {ρ : List Addr} {h : Heap} (x : FO K env c ℓ ρ h) : ∀ a ∈ frameX env, ∀ vs, h.get? a ≠ some (tupObj vs) := by
  intro a ha vs e
  rcases mem_frameX ha with rfl | ⟨y, hy⟩
  · obtain ⟨m, hn, _⟩ := x.ns; exact Ns.not_tup hn vs e
  · obtain ⟨_, _, _, o, eo, hne⟩ := x.cnew y a hy
    rw [e] at eo; cases eo; exact hne vs rfl
theorem FO.X_new {env : Env} {c : CEnv} {ℓ : L} {ρ : List Addr} {h : Heap} (x : FO K env c ℓ ρ h) : ∀ a ∈ frameX env, a ∉ ρ ∧ K.h0.get? a = none := by
  intro a ha
  rcases mem_frameX ha with rfl | ⟨y, hy⟩
  · exact x.lnew
  · obtain ⟨h1, h2, _⟩ := x.cnew y a hy; exact ⟨h1, h2⟩
theorem StepX.tups {X ρ ρ' : List Addr} {σ : H} {s s' : Shared} (x : StepX X ρ s ρ' s') (hr : HR K ρ σ s.heap) (hX : ∀ a ∈ X, ∀ vs, s.heap.get? a ≠ some (tupObj vs)) : ∀ a vs, s.heap.get? a = some (tupObj vs) → s'.heap.get? a = some (tupObj vs) :=
  fun a vs e => x.fr a _ e (fun ha => by
    obtain ⟨ob, h1, h2⟩ := hr.at_ ha
    rw [e] at h1; cases h1; exact h2 rfl) fun ha => hX a ha vs e

/-- storing a name of the frame -/
theorem store_sound {env : Env} {c : CEnv} {ℓ ℓ' : L} {ρ : List Addr} {σ : H} {s : Shared} (fo : FO K env c ℓ ρ s.heap) (hr : HR K ρ σ s.heap) {x : Str} {i : Nat} {v : V} {cv : Value} (hx : cVar c x = some i) (hs : setL ℓ i v = some ℓ')
    (rv : RV K ρ s.heap v cv) {Q : Unit → Shared → Prop} {E : Value → Shared → Prop} (hq : ∀ s' a, (a = env.locals ∨ (c.names.lookup x = some .cell ∧ (x, a) ∈ env.cells)) → HR K ρ σ s'.heap → StepX [a] ρ s ρ s' → FO K env c ℓ' ρ s'.heap → Q () s') : wpAny K.M A (storeName env x cv) Q E s := by
  obtain ⟨hk, _, hsl⟩ := cVar_inv hx
  obtain ⟨hi, hset⟩ := lookup_set hs
  have hlt := fo.lt x i hsl
  have hfree : ∀ (j : Nat) w, c.next ≤ j → ℓ'[j]? ≠ some (some w) := fun j w hj => by rw [hset, if_neg (by omega)]; exact fo.free j w hj
  rcases hk with hk | hk
  · obtain ⟨m, hn, hm⟩ := fo.ns
    refine wpAny_storeName_local (show env.scope.names.lookup x = _ by rw [fo.names]; exact hk) hn (fun h' hn' hs' => ?_) (by rw [fo.kind]; rfl)
    have hnt := Ns.not_tup hn
    have hbut : ∀ b o, b ≠ env.locals → s.heap.get? b = some o → h'.get? b = some o := fun b o hb e => (hs'.2 b hb).trans e
    refine hq _ _ (.inl rfl) (hr.but fo.lnew.1 fo.lnew.2 hnt hbut) ⟨List.prefix_refl _, fun b o e _ hX => hbut b o (fun e' => hX (by rw [e']; exact List.mem_cons_self)) e, fun _ h => .inl h, rfl, rfl⟩ ?_
    refine ⟨fo.kind, fo.names, fo.glob, fo.blts, ⟨_, hn', fun y j w h1 h2 h3 => ?_⟩, fun y hy => ?_, fo.inj, fo.capart, fo.lnew, hfree, fo.lt, fun y a hy => ?_⟩
    · rw [hset] at h3
      by_cases hji : j = i
      · subst hji
        rw [if_pos rfl] at h3; cases h3
        obtain rfl := fo.inj y x j h2 hsl
        exact ⟨cv, if_pos rfl, rv.but hnt hbut⟩
      · rw [if_neg hji] at h3
        have hyx : y ≠ x := by rintro rfl; rw [h2] at hsl; cases hsl; exact hji rfl
        obtain ⟨cw, g1, g2⟩ := hm y j w h1 h2 h3
        exact ⟨cw, by rw [if_neg hyx]; exact g1, g2.but hnt hbut⟩
    · obtain ⟨a, o, g1, g2, g3⟩ := fo.cell y hy
      have ha : a ≠ env.locals := (fo.cnew y a (mem_of_lookup g1)).2.2.1
      refine ⟨a, o, g1, IsCell.at g2 fun o e => hbut _ _ ha e, fun j w h2 h3 => ?_⟩
      rw [hset] at h3
      have hji : j ≠ i := by rintro rfl; obtain rfl := fo.inj y x j h2 hsl; rw [hk] at hy; cases hy
      rw [if_neg hji] at h3
      obtain ⟨cw, g4, g5⟩ := g3 j w h2 h3
      exact ⟨cw, g4, g5.but hnt hbut⟩
    · obtain ⟨g1, g2, g3, o, g4, g5⟩ := fo.cnew y a hy
      exact ⟨g1, g2, g3, o, hbut _ _ g3 g4, g5⟩
  · obtain ⟨ca, co, hca, hcell, hcv⟩ := fo.cell x hk
    obtain ⟨c1, c2, c3, c4⟩ := fo.cnew x ca (mem_of_lookup hca)
    refine wpAny_storeName_cell fo.kind (show env.scope.names.lookup x = _ by rw [fo.names]; exact hk) hca hcell (fun h' hc' hs' => ?_)
    have hnt := IsCell.not_tup hcell
    have hbut : ∀ b o, b ≠ ca → s.heap.get? b = some o → h'.get? b = some o := fun b o hb e => (hs'.2 b hb).trans e
    refine hq _ _ (.inr ⟨hk, mem_of_lookup hca⟩) (hr.but c1 c2 hnt hbut) ⟨List.prefix_refl _, fun b o e _ hX => hbut b o (fun e' => hX (by rw [e']; exact List.mem_cons_self)) e, fun _ h => .inl h, rfl, rfl⟩ ?_
    obtain ⟨m, hn, hm⟩ := fo.ns
    refine ⟨fo.kind, fo.names, fo.glob, fo.blts, ⟨m, Ns.at hn fun o e => hbut _ _ (fun e' => c3 e'.symm) e, fun y j w h1 h2 h3 => ?_⟩, fun y hy => ?_, fo.inj, fo.capart, fo.lnew, hfree, fo.lt, fun y a hy => ?_⟩
    · rw [hset] at h3
      have hji : j ≠ i := by rintro rfl; obtain rfl := fo.inj y x j h2 hsl; rw [hk] at h1; cases h1
      rw [if_neg hji] at h3
      obtain ⟨cw, g4, g5⟩ := hm y j w h1 h2 h3
      exact ⟨cw, g4, g5.but hnt hbut⟩
    · by_cases hyx : y = x
      · subst hyx
        refine ⟨ca, some cv, hca, hc', fun j w h2 h3 => ?_⟩
        rw [h2] at hsl; cases hsl
        rw [hset, if_pos rfl] at h3; cases h3
        exact ⟨cv, rfl, rv.but hnt hbut⟩
      · obtain ⟨a, o, g1, g2, g3⟩ := fo.cell y hy
        have ha : a ≠ ca := by rintro rfl; exact hyx (fo.capart y x a (mem_of_lookup g1) (mem_of_lookup hca))
        refine ⟨a, o, g1, IsCell.at g2 fun o e => hbut _ _ ha e, fun j w h2 h3 => ?_⟩
        rw [hset] at h3
        have hji : j ≠ i := by rintro rfl; exact hyx (fo.inj y x j h2 hsl)
        rw [if_neg hji] at h3
        obtain ⟨cw, g4, g5⟩ := g3 j w h2 h3
        exact ⟨cw, g4, g5.but hnt hbut⟩
    · obtain ⟨g1, g2, g3, o, g4, g5⟩ := fo.cnew y a hy
      refine ⟨g1, g2, g3, ?_⟩
      by_cases hac : a = ca
      · subst hac; obtain ⟨o', e', hd'⟩ := hc'; exact ⟨o', e', fun vs hv => by rw [hv] at hd'; cases hd'⟩
      · exact ⟨o, hbut _ _ hac g4, g5⟩
end
end Mini

/-! Iterators. -/
set_option autoImplicit false
namespace Mini
open PySem PyProof.Rows PySem.SeqAt

inductive ItK where
  | list (n : Nat) (ax : Addr)
  | tup (ax : Addr) (cvs : List Value)
  | frz (ax : Addr) (cvs : List Value) (m : Nat)
  | rng (a : Int) (m : Nat)

noncomputable def ItSt (K : Kx) (ρ : List Addr) (I : Addr) (i : Nat) (h : Heap) : ItK → Prop
  | .list n ax => ρ[n]? = some ax ∧ h.IsListIter I ax i
  | .tup ax cvs => h.IsTupleIter I ax i ∧ h.get? ax = some (tupObj cvs)
  | .frz ax cvs m => h.IsListIter I ax i ∧ K.h0.get? ax = some (listObj cvs m)
  | .rng a m => IsRangeIter h I (a + (i : Nat) * 1) ((m : Int) - (i : Nat)) 1

/-- what is drawn, and what must stay -/
noncomputable def ItV (K : Kx) (ρ : List Addr) (h : Heap) (src : Src) : ItK → Prop
  | .list n _ => src.keep = fun σ' => σ'[n]? = some (.list src.vs)
  | .tup _ cvs => RVs K ρ h src.vs cvs ∧ src.keep = fun _ => True
  | .frz _ cvs _ => RVs K ρ h src.vs cvs ∧ src.keep = fun _ => True
  | .rng a m => src.vs = (List.range m).map (fun k => V.int (a + (k : Nat))) ∧ src.keep = fun _ => True

/-- an iterator stands -/
structure ItOK (K : Kx) (ρ : List Addr) (I : Addr) (i : Nat) (h : Heap) (src : Src) (k : ItK) : Prop where
  st : ItSt K ρ I i h k
  v : ItV K ρ h src k
  off : I ∉ ρ
  new : K.h0.get? I = none

section
variable {K : Kx} {A : Around}

theorem ItSt.obj {ρ : List Addr} {I : Addr} {i : Nat} {h : Heap} {k : ItK} (x : ItSt K ρ I i h k) : ∃ o, h.get? I = some o ∧ o.cls ≠ .type "tuple" := by
  cases k with
  | list n ax => obtain ⟨_, o, e, hc, _⟩ := x; exact ⟨o, e, by rw [hc]; decide⟩
  | tup ax cvs => obtain ⟨⟨o, e, hc, _⟩, _⟩ := x; exact ⟨o, e, by rw [hc]; decide⟩
  | frz ax cvs m => obtain ⟨⟨o, e, hc, _⟩, _⟩ := x; exact ⟨o, e, by rw [hc]; decide⟩
  | rng a m => exact ⟨_, x, by show Value.type "range_iterator" ≠ Value.type "tuple"; decide⟩

theorem ItOK.not_tup {ρ : List Addr} {I : Addr} {i : Nat} {h : Heap} {src : Src} {k : ItK} (x : ItOK K ρ I i h src k) : ∀ vs, h.get? I ≠ some (tupObj vs) := by
  intro vs e
  obtain ⟨o, e', hc⟩ := x.st.obj
  rw [e] at e'; cases e'; exact hc rfl

/-- it stands behind a step that does not touch it -/
theorem ItOK.step {ρ ρ' : List Addr} {I : Addr} {i : Nat} {σ : H} {s s' : Shared} {src : Src} {k : ItK} (x : ItOK K ρ I i s.heap src k) (hr : HR K ρ σ s.heap) (st : Step ρ s ρ' s') : ItOK K ρ' I i s'.heap src k := by
  obtain ⟨o, eo, _⟩ := x.st.obj
  have hI : ∀ o, s.heap.get? I = some o → s'.heap.get? I = some o := fun o e => st.fr I o e x.off
  refine ⟨?_, ?_, fun hm => ?_, x.new⟩
  · have h := x.st
    cases k with
    | list n ax => obtain ⟨h1, o, e, h2⟩ := h; exact ⟨pre_get st.pre h1, o, hI _ e, h2⟩
    | tup ax cvs => obtain ⟨⟨o, e, h2⟩, h3⟩ := h; exact ⟨⟨o, hI _ e, h2⟩, st.tups hr _ _ h3⟩
    | frz ax cvs m => obtain ⟨⟨o, e, h2⟩, h3⟩ := h; exact ⟨⟨o, hI _ e, h2⟩, h3⟩
    | rng a m => exact hI _ h
  · have h := x.v
    cases k with
    | list n ax => exact h
    | tup ax cvs => exact ⟨h.1.step hr st, h.2⟩
    | frz ax cvs m => exact ⟨h.1.step hr st, h.2⟩
    | rng a m => exact h
  · rcases st.fresh I hm with h | h
    · exact x.off h
    · rw [eo] at h; cases h

/-- it stands where another private object has changed -/
theorem ItOK.but {ρ : List Addr} {I D : Addr} {i : Nat} {h h' : Heap} {src : Src} {k : ItK} (x : ItOK K ρ I i h src k) (hD : ∀ vs, h.get? D ≠ some (tupObj vs)) (hne : I ≠ D) (hk : ∀ b o, b ≠ D → h.get? b = some o → h'.get? b = some o) : ItOK K ρ I i h' src k := by
  refine ⟨?_, ?_, x.off, x.new⟩
  · have h := x.st
    cases k with
    | list n ax => obtain ⟨h1, o, e, h2⟩ := h; exact ⟨h1, o, hk _ _ hne e, h2⟩
    | tup ax cvs => obtain ⟨⟨o, e, h2⟩, h3⟩ := h; exact ⟨⟨o, hk _ _ hne e, h2⟩, hk _ _ (by rintro rfl; exact hD _ h3) h3⟩
    | frz ax cvs m => obtain ⟨⟨o, e, h2⟩, h3⟩ := h; exact ⟨⟨o, hk _ _ hne e, h2⟩, h3⟩
    | rng a m => exact hk _ _ hne h
  · have h := x.v
    cases k with
    | list n ax => exact h
    | tup ax cvs => exact ⟨h.1.but hD hk, h.2⟩
    | frz ax cvs m => exact ⟨h.1.but hD hk, h.2⟩
    | rng a m => exact h

theorem it_next {ρ : List Addr} {I : Addr} {i : Nat} {σ : H} {s : Shared} {src : Src} {k : ItK} {v : V} (hh : A.handled = none) (x : ItOK K ρ I i s.heap src k) (hr : HR K ρ σ s.heap) (hkeep : src.keep σ) (hv : src.vs[i]? = some v)
    {Q : Option Value → Shared → Prop} {E : Value → Shared → Prop}
    (hq : ∀ cv h' tk, (∀ b o, b ≠ I → s.heap.get? b = some o → h'.get? b = some o) → HR K ρ σ h' → RV K ρ h' v cv → ItOK K ρ I (i + 1) h' src k → Q (some cv) { s with heap := h', toks := tk }) :
    wpAny K.M A (pyNext (.ref I)) Q E s := by
  have hnt := x.not_tup
  have key : ∀ cv h' tk, (∀ b o, b ≠ I → s.heap.get? b = some o → h'.get? b = some o) → RV K ρ s.heap v cv → ItSt K ρ I (i + 1) h' k → Q (some cv) { s with heap := h', toks := tk } := by
    intro cv h' tk hk rv st
    refine hq cv h' tk hk (hr.but x.off x.new hnt hk) (rv.but hnt hk) ⟨st, ?_, x.off, x.new⟩
    have h := x.v
    cases k with
    | list n ax => exact h
    | tup ax cvs => exact ⟨h.1.but hnt hk, h.2⟩
    | frz ax cvs m => exact ⟨h.1.but hnt hk, h.2⟩
    | rng a m => exact h
  have hst := x.st
  have hvv := x.v
  cases k with
  | list n ax =>
    obtain ⟨h1, hit⟩ := hst
    have hv' : src.keep = fun σ' => σ'[n]? = some (.list src.vs) := hvv
    rw [hv'] at hkeep
    obtain ⟨cvs, m, e, rs, _⟩ := hr.obj n _ ax hkeep h1
    obtain ⟨cv, hc, rv⟩ := rs.get hv
    refine wpAny_pyNext_list_item hit ⟨_, e, rfl, m, rfl⟩ (x := cv) (by simpa using hc) fun h' hit' hs' => ?_
    exact key cv h' s.toks (fun b o hb e => (hs'.2 b hb).trans e) rv ⟨h1, hit'⟩
  | tup ax cvs =>
    obtain ⟨hit, e⟩ := hst
    obtain ⟨cv, hc, rv⟩ := hvv.1.get hv
    refine wpAny_pyNext_tuple_item hit ⟨_, e, rfl, 0, rfl⟩ (x := cv) (by simpa using hc) fun h' hit' hs' => ?_
    refine key cv h' s.toks (fun b o hb e => (hs'.2 b hb).trans e) rv ⟨hit', (hs'.2 ax ?_).trans e⟩
    rintro rfl
    obtain ⟨o, e', hc', _⟩ := hit
    rw [e] at e'; cases e'; exact absurd hc' (show ¬ Value.type "tuple" = Value.type "tuple_iterator" by decide)
  | frz ax cvs m =>
    obtain ⟨hit, e⟩ := hst
    obtain ⟨cv, hc, rv⟩ := hvv.1.get hv
    refine wpAny_pyNext_list_item hit ⟨_, hr.keep _ _ e, rfl, m, rfl⟩ (x := cv) (by simpa using hc) fun h' hit' hs' => ?_
    exact key cv h' s.toks (fun b o hb e => (hs'.2 b hb).trans e) rv ⟨hit', e⟩
  | rng a m =>
    have hvs : src.vs = (List.range m).map (fun k => V.int (a + (k : Nat))) := hvv.1
    have hi : i < m := by have := (List.getElem?_eq_some_iff.mp hv).1; rw [hvs] at this; simpa using this
    have ev : v = .int (a + (i : Nat)) := by rw [hvs] at hv; simp [hi] at hv; exact hv.symm
    subst ev
    refine (Walks.range hh I a 1 m).item i s Q E hi hst fun cv h' tk hP st' hk => ?_
    obtain ⟨t, rfl⟩ := hP
    rw [Int.mul_one]
    exact key _ h' tk (fun b o hb e => hk b o (by simpa using hb) e) (.int _ _) st'

theorem it_done {ρ : List Addr} {I : Addr} {i : Nat} {σ : H} {s : Shared} {src : Src} {k : ItK} (hh : A.handled = none) (x : ItOK K ρ I i s.heap src k) (hr : HR K ρ σ s.heap) (hkeep : src.keep σ) (hv : i = src.vs.length)
    {Q : Option Value → Shared → Prop} {E : Value → Shared → Prop}
    (hq : ∀ h' tk, (∀ b o, b ≠ I → s.heap.get? b = some o → h'.get? b = some o) → HR K ρ σ h' → Q none { s with heap := h', toks := tk }) : wpAny K.M A (pyNext (.ref I)) Q E s := by
  have hnt := x.not_tup
  have key : ∀ h' tk, (∀ b o, b ≠ I → s.heap.get? b = some o → h'.get? b = some o) → Q none { s with heap := h', toks := tk } := fun h' tk hk => hq h' tk hk (hr.but x.off x.new hnt hk)
  have hst := x.st
  have hvv := x.v
  cases k with
  | list n ax =>
    obtain ⟨h1, hit⟩ := hst
    have hv' : src.keep = fun σ' => σ'[n]? = some (.list src.vs) := hvv
    rw [hv'] at hkeep
    obtain ⟨cvs, m, e, rs, _⟩ := hr.obj n _ ax hkeep h1
    have := rs.length
    exact wpAny_pyNext_list_end hh hit ⟨_, e, rfl, m, rfl⟩ (by simp; omega) fun h' hs' => key h' s.toks fun b o hb e => hs' b o hb e
  | tup ax cvs =>
    obtain ⟨hit, e⟩ := hst
    have := hvv.1.length
    exact (Walks.tuple hh I ax (by rintro rfl; obtain ⟨o, e', hc', _⟩ := hit; rw [e] at e'; cases e'; exact absurd hc' (show ¬ Value.type "tuple" = Value.type "tuple_iterator" by decide)) cvs.toArray).done s Q E (by rw [List.size_toArray, ← this, ← hv]; exact ⟨hit, _, e, rfl, 0, rfl⟩) fun h' tk hk => key h' tk fun b o hb e => hk b o (by simpa using hb) e
  | frz ax cvs m =>
    obtain ⟨hit, e⟩ := hst
    have := hvv.1.length
    exact wpAny_pyNext_list_end hh hit ⟨_, hr.keep _ _ e, rfl, m, rfl⟩ (by simp; omega) fun h' hs' => key h' s.toks fun b o hb e => hs' b o hb e
  | rng a m =>
    have hvs : src.vs = (List.range m).map (fun k => V.int (a + (k : Nat))) := hvv.1
    have him : i = m := by rw [hv, hvs]; simp
    subst him
    exact (Walks.range hh I a 1 i).done s Q E hst fun h' tk hk => key h' tk fun b o hb e => hk b o (by simpa using hb) e

theorem it_self {ρ : List Addr} {I : Addr} {i : Nat} {s : Shared} {src : Src} {k : ItK} (hh : A.handled = none) (x : ItOK K ρ I i s.heap src k) {Q : Value → Shared → Prop} {E : Value → Shared → Prop} (hq : Q (.ref I) s) :
    wpAny K.M A (pyIter (.ref I)) Q E s := by
  have hst := x.st
  cases k with
  | list n ax => exact wpAny_pyIter_listiter hst.2 hq
  | tup ax cvs =>
    obtain ⟨hit, e⟩ := hst
    exact (Walks.tuple hh I ax (by rintro rfl; obtain ⟨o, e', hc', _⟩ := hit; rw [e] at e'; cases e'; exact absurd hc' (show ¬ Value.type "tuple" = Value.type "tuple_iterator" by decide)) cvs.toArray).self i s Q E ⟨hit, _, e, rfl, 0, rfl⟩ hq
  | frz ax cvs m => exact wpAny_pyIter_listiter hst.1 hq
  | rng a m => exact (Walks.range hh I a 1 m).self i s Q E hst hq

/-- a fresh private object -/
theorem Good.tmp {ρ : List Addr} {σ : H} {s : Shared} (hr : HR K ρ σ s.heap) (o : Obj) (t : Nat) : Good K ρ s ρ σ { s with heap := s.heap.push o, toks := t } := Good.grow hr (fun b o' e => Heap.get?_push_of_some _ e) t

theorem fresh_off {ρ : List Addr} {σ : H} {s : Shared} (hr : HR K ρ σ s.heap) : s.heap.objs.size ∉ ρ ∧ K.h0.get? s.heap.objs.size = none := by
  refine ⟨fun hm => ?_, ?_⟩
  · obtain ⟨ob, e, _⟩ := hr.at_ hm; rw [get?_size] at e; cases e
  · cases e : K.h0.get? s.heap.objs.size with
    | none => rfl
    | some o => have := hr.keep _ _ e; rw [get?_size] at this; cases this

/-- an iterator over a value that has items -/
theorem it_make {σ : H} {x : V} {src : Src} {ρ : List Addr} {s : Shared} {cx : Value}
    (h : (match x with
      | .tup l => some (R.ok (⟨l, fun _ => True⟩ : Src), σ)
      | .frz l => some (.ok ⟨l.map .int, fun _ => True⟩, σ)
      | .obj n => match σ[n]? with
        | some (.list l) => some (.ok ⟨l, fun σ' => σ'[n]? = some (.list l)⟩, σ)
        | _ => .none
      | _ => .none) = some (.ok src, σ)) (hr : HR K ρ σ s.heap) (rx : RV K ρ s.heap x cx)
    {Q : Value → Shared → Prop} {E : Value → Shared → Prop}
    (hq : ∀ h' k, Good K ρ s ρ σ { s with heap := h' } → ItOK K ρ s.heap.objs.size 0 h' src k → src.keep σ → Q (.ref s.heap.objs.size) { s with heap := h' }) : wpAny K.M A (pyIter cx) Q E s := by
  obtain ⟨f1, f2⟩ := fresh_off hr
  cases x with
  | tup l =>
    cases rx with
    | tup e r hl =>
      rename_i a vs
      cases h
      refine wpAny_pyIter_tuple ⟨_, e, rfl, 0, rfl⟩ (hq _ (.tup a vs) (Good.tmp hr _ _) ⟨⟨⟨_, Heap.get?_push_size _ rfl, rfl, rfl⟩, Heap.get?_push_of_some _ e⟩, ⟨r.mono (List.prefix_refl _) fun _ _ e => Heap.get?_push_of_some _ e, rfl⟩, f1, f2⟩ trivial)
  | frz l =>
    cases rx with
    | frz e r hl =>
      rename_i a vs n
      cases h
      refine wpAny_pyIter_list ⟨_, hr.keep _ _ e, rfl, n, rfl⟩ (hq _ (.frz a vs n) (Good.tmp hr _ _) ⟨⟨⟨_, Heap.get?_push_size _ rfl, rfl, rfl⟩, e⟩, ⟨r.mono (List.prefix_refl _) fun _ _ e => Heap.get?_push_of_some _ e, rfl⟩, f1, f2⟩ trivial)
  | obj n =>
    cases rx with
    | obj ha =>
      rename_i a
      simp only at h
      split at h
      · rename_i l hl
        cases h
        obtain ⟨vs, m, e, r, _⟩ := hr.obj _ _ _ hl ha
        refine wpAny_pyIter_list ⟨_, e, rfl, m, rfl⟩ (hq _ (.list n a) (Good.tmp hr _ _) ⟨⟨ha, ⟨_, Heap.get?_push_size _ rfl, rfl, rfl⟩⟩, rfl, f1, f2⟩ hl)
      · cases h
  | _ => cases h
end
end Mini

/-! Expressions, case by case. -/
set_option autoImplicit false
namespace Mini
open PySem PyProof.Rows PySem.SeqAt

noncomputable def PT (K : Kx) (A : Around) (env : Env) (c : CEnv) (cl : Cl) (e : Expr) (a : Ex) : Prop :=
  ∀ ℓ σ v σ' b, evalE cl a ℓ σ = some (.ok v, σ') → truth v = some b → ∀ ρ s, HR K ρ σ s.heap → FO K env c ℓ ρ s.heap → TR K A (isTrue e env (eval e env)) ρ s σ' fun _ r _ => r = b

noncomputable def PEs (K : Kx) (A : Around) (env : Env) (c : CEnv) (cl : Cl) (es : List Expr) (a : Es) : Prop :=
  ∀ pos ℓ σ vs σ', evalEs cl a ℓ σ = some (.ok vs, σ') → ∀ ρ s, HR K ρ σ s.heap → FO K env c ℓ ρ s.heap → TR K A (spliced (backTo pos (starEach es env))) ρ s σ' fun ρ' cvs s' => RVs K ρ' s'.heap vs cvs

noncomputable def PO (K : Kx) (A : Around) (env : Env) (c : CEnv) (cl : Cl) (e : Option Expr) (a : Oe) : Prop :=
  ∀ ℓ σ v σ', evalOe cl a ℓ σ = some (.ok v, σ') → ∀ ρ s, HR K ρ σ s.heap → FO K env c ℓ ρ s.heap → TR K A (evalPart e env) ρ s σ' fun ρ' cv s' => RV K ρ' s'.heap v cv

section
variable {K : Kx} {A : Around} {env : Env} {c : CEnv} {cl : Cl} {T : Tabs}

theorem TR.stand {α : Type} {t : Sem α} {pos : Pos} {ρ : List Addr} {s : Shared} {σ' : H} {P : List Addr → α → Shared → Prop} (h : TR K A t ρ s σ' P) : TR K A (standAt pos >>= fun _ => t) ρ s σ' P := wpAny_bind (wpAny_standAt h)
theorem TR.hold {α : Type} {t : Sem α} {vs : List Value} {ρ : List Addr} {s : Shared} {σ' : H} {P : List Addr → α → Shared → Prop} (h : TR K A t ρ s σ' P) : TR K A (holding vs t) ρ s σ' P := wpAny_holding h
theorem TR.oper {t : Sem Value} {vs : List Value} {ρ : List Addr} {s : Shared} {σ' : H} {P : List Addr → Value → Shared → Prop} (h : TR K A t ρ s σ' P) : TR K A (operate vs t) ρ s σ' P := wpAny_operating h

theorem truthy_sound {v : V} {b : Bool} (e : truth v = some b) {ρ : List Addr} {s : Shared} {cv : Value} (r : RV K ρ s.heap v cv) {Q : Bool → Shared → Prop} {E : Value → Shared → Prop} (hq : Q b s) : wpAny K.M A (truthy cv) Q E s := by
  cases v with
  | bool b' => cases r; cases e; exact wpAny_truthy_bool hq
  | none => cases r; cases e; exact wpAny_pure hq
  | _ => cases e

/-- the plain way of a test -/
theorem pt_plain {e : Expr} {a : Ex} (h : PE K A env c cl e a) (hw : ∀ w, isTrue e env w = (do let v ← w; standAt e.pos; holding [v] (truthy v))) : PT K A env c cl e a := by
  intro ℓ σ v σ' b he hb ρ s hr fo
  rw [hw]
  exact TR.bind (h ℓ σ v σ' he ρ s hr fo) fun ρ1 cv s1 g1 rv => TR.stand (TR.hold (truthy_sound hb rv ⟨ρ1, Good.refl g1.hr, rfl⟩))

theorem pe_bin {l r : Expr} {op : Operator} {pos : Pos} {a b : Ex} {o : Bop} (ho : cOp op = some o) (hl : PE K A env c cl l a) (hrr : PE K A env c cl r b) : PE K A env c cl (.BinOp l op r pos) (.bin o a b) := by
  intro ℓ σ v σ' he ρ s hr fo
  simp only [evalE] at he
  obtain ⟨x, σ1, h1, he⟩ := bnd_ok_inv he
  obtain ⟨y, σ2, h2, he⟩ := bnd_ok_inv he
  have he := okH_inv he
  rw [eval_BinOp]
  refine TR.bind (hl ℓ σ x σ1 h1 ρ s hr fo) fun ρ1 cx s1 g1 rx => ?_
  refine TR.bind (TR.hold (hrr ℓ σ1 y σ2 h2 ρ1 s1 g1.hr (fo.step hr g1.st))) fun ρ2 cy s2 g2 ry => ?_
  exact TR.stand (TR.oper (binop_sound he g2.hr (rx.step g1.hr g2.st) ry ho))

theorem pe_neg {x : Expr} {pos : Pos} {a : Ex} (h : PE K A env c cl x a) : PE K A env c cl (.UnaryOp .USub x pos) (.neg a) := by
  intro ℓ σ v σ' he ρ s hr fo
  simp only [evalE] at he
  obtain ⟨y, σ1, h1, he⟩ := bnd_ok_inv he
  show TR K A (do let v ← eval x env; standAt pos; holding [v] (unaryOp .USub v)) ρ s σ' _
  refine TR.bind (h ℓ σ y σ1 h1 ρ s hr fo) fun ρ1 cy s1 g1 ry => TR.stand (TR.hold ?_)
  cases y with
  | int i => cases ry; cases he; exact neg_int ⟨ρ1, (Good.refl g1.hr).tok _, .int _ _⟩
  | _ => cases he

theorem pe_not {x : Expr} {pos : Pos} {a : Ex} (h : PE K A env c cl x a) : PE K A env c cl (.UnaryOp .Not x pos) (.not a) := by
  intro ℓ σ v σ' he ρ s hr fo
  simp only [evalE] at he
  obtain ⟨y, σ1, h1, he⟩ := bnd_ok_inv he
  obtain ⟨hx, rfl⟩ := okX_inv he
  obtain ⟨b, hb, rfl⟩ := Option.map_eq_some_iff.mp hx
  show TR K A (do let v ← eval x env; standAt pos; holding [v] (unaryOp .Not v)) ρ s σ' _
  refine TR.bind (h ℓ σ y σ' h1 ρ s hr fo) fun ρ1 cy s1 g1 ry => TR.stand (TR.hold ?_)
  exact not_value (truthy_sound hb ry ⟨ρ1, Good.refl g1.hr, .bool _⟩)
theorem pt_not {x : Expr} {pos : Pos} {a : Ex} (h : PT K A env c cl x a) : PT K A env c cl (.UnaryOp .Not x pos) (.not a) := by
  intro ℓ σ v σ' b he hb ρ s hr fo
  simp only [evalE] at he
  obtain ⟨y, σ1, h1, he⟩ := bnd_ok_inv he
  obtain ⟨hx, rfl⟩ := okX_inv he
  obtain ⟨b', hb', rfl⟩ := Option.map_eq_some_iff.mp hx
  cases hb
  exact wpAny_isTrue_Not (wpAny_mono (h ℓ σ y σ' b' h1 hb' ρ s hr fo) (fun r s' hq => let ⟨ρ', g, e⟩ := hq; ⟨ρ', g, by rw [e]⟩) fun _ _ f => f)

theorem pe_ife {t b o : Expr} {pos : Pos} {x y z : Ex} (ht : PT K A env c cl t x) (hb : PE K A env c cl b y) (ho : PE K A env c cl o z) : PE K A env c cl (.IfExp t b o pos) (.ife x y z) := by
  intro ℓ σ v σ' he ρ s hr fo
  simp only [evalE] at he
  obtain ⟨w, σ1, h1, he⟩ := bnd_ok_inv he
  show TR K A (do if ← isTrue t env (eval t env) then eval b env else eval o env) ρ s σ' _
  split at he
  · rename_i hw
    refine TR.bind (ht ℓ σ w σ1 true h1 hw ρ s hr fo) fun ρ1 r s1 g1 e => ?_
    subst e
    exact hb ℓ σ1 v σ' he ρ1 s1 g1.hr (fo.step hr g1.st)
  · rename_i hw
    refine TR.bind (ht ℓ σ w σ1 false h1 hw ρ s hr fo) fun ρ1 r s1 g1 e => ?_
    subst e
    exact ho ℓ σ1 v σ' he ρ1 s1 g1.hr (fo.step hr g1.st)
  · cases he
theorem pt_ife {t b o : Expr} {pos : Pos} {x y z : Ex} (ht : PT K A env c cl t x) (hb : PT K A env c cl b y) (ho : PT K A env c cl o z) : PT K A env c cl (.IfExp t b o pos) (.ife x y z) := by
  intro ℓ σ v σ' bb he hbb ρ s hr fo
  simp only [evalE] at he
  obtain ⟨w, σ1, h1, he⟩ := bnd_ok_inv he
  show TR K A (do if ← isTrue t env (eval t env) then isTrue b env (eval b env) else isTrue o env (eval o env)) ρ s σ' _
  split at he
  · rename_i hw
    refine TR.bind (ht ℓ σ w σ1 true h1 hw ρ s hr fo) fun ρ1 r s1 g1 e => ?_
    subst e
    exact hb ℓ σ1 v σ' bb he hbb ρ1 s1 g1.hr (fo.step hr g1.st)
  · rename_i hw
    refine TR.bind (ht ℓ σ w σ1 false h1 hw ρ s hr fo) fun ρ1 r s1 g1 e => ?_
    subst e
    exact ho ℓ σ1 v σ' bb he hbb ρ1 s1 g1.hr (fo.step hr g1.st)
  · cases he

/-- and, or -/
noncomputable def PB (K : Kx) (A : Around) (env : Env) (c : CEnv) (cl : Cl) (op : BoolOp) (es : List Expr) (a : Ex) : Prop :=
  (∀ pos ℓ σ v σ', evalE cl a ℓ σ = some (.ok v, σ') → ∀ ρ s, HR K ρ σ s.heap → FO K env c ℓ ρ s.heap → TR K A (boolOp pos op (evalEach es env)) ρ s σ' fun ρ' cv s' => RV K ρ' s'.heap v cv) ∧
  (∀ ℓ σ v σ' b, evalE cl a ℓ σ = some (.ok v, σ') → truth v = some b → ∀ ρ s, HR K ρ σ s.heap → FO K env c ℓ ρ s.heap → TR K A (allTrue op es env) ρ s σ' fun _ r _ => r = b)

theorem allTrue_one (op : BoolOp) (e : Expr) {ρ : List Addr} {s : Shared} {σ' : H} {b : Bool} (h : TR K A (isTrue e env (eval e env)) ρ s σ' fun _ r _ => r = b) : TR K A (allTrue op [e] env) ρ s σ' fun _ r _ => r = b := by
  have e1 : allTrue op [e] env = (do match op, ← isTrue e env (eval e env) with | .And, false => pure false | .Or, true => pure true | _, _ => allTrue op [] env) := rfl
  rw [e1]
  refine TR.bind h fun ρ1 r s1 g1 er => ?_
  subst er
  cases op <;> cases r <;> exact TR.pure g1.hr rfl

theorem pb_one {op : BoolOp} {e : Expr} {a : Ex} (h : PE K A env c cl e a) (ht : PT K A env c cl e a) : PB K A env c cl op [e] a :=
  ⟨fun pos ℓ σ v σ' he ρ s hr fo => h ℓ σ v σ' he ρ s hr fo, fun ℓ σ v σ' b he hb ρ s hr fo => allTrue_one op e (ht ℓ σ v σ' b he hb ρ s hr fo)⟩

theorem pb_cons {op : BoolOp} {e e' : Expr} {r : List Expr} {a b : Ex} (h : PE K A env c cl e a) (ht : PT K A env c cl e a) (hb : PB K A env c cl op (e' :: r) b) :
    PB K A env c cl op (e :: e' :: r) (boolEx op a b) := by
  constructor
  · intro pos ℓ σ v σ' he ρ s hr fo
    have e1 : boolOp pos op (evalEach (e :: e' :: r) env) = (do
        let v ← eval e env
        standAt pos
        let t ← holding [v] (truthy v)
        match op, t with
        | .And, false | .Or, true => pure v
        | _, _ => boolOp pos op (evalEach (e' :: r) env)) := rfl
    rw [e1]
    cases op with
    | And =>
      simp only [boolEx, evalE] at he
      obtain ⟨x, σ1, h1, he⟩ := bnd_ok_inv he
      refine TR.bind (h ℓ σ x σ1 h1 ρ s hr fo) fun ρ1 cx s1 g1 rx => TR.stand (wpAny_bind (wpAny_holding ?_))
      split at he
      · rename_i hx
        exact truthy_sound hx rx (hb.1 pos ℓ σ1 v σ' he ρ1 s1 g1.hr (fo.step hr g1.st))
      · rename_i hx
        cases he
        exact truthy_sound hx rx (TR.pure g1.hr rx)
      · cases he
    | Or =>
      simp only [boolEx, evalE] at he
      obtain ⟨x, σ1, h1, he⟩ := bnd_ok_inv he
      refine TR.bind (h ℓ σ x σ1 h1 ρ s hr fo) fun ρ1 cx s1 g1 rx => TR.stand (wpAny_bind (wpAny_holding ?_))
      split at he
      · rename_i hx
        cases he
        exact truthy_sound hx rx (TR.pure g1.hr rx)
      · rename_i hx
        exact truthy_sound hx rx (hb.1 pos ℓ σ1 v σ' he ρ1 s1 g1.hr (fo.step hr g1.st))
      · cases he
  · intro ℓ σ v σ' bb he hbb ρ s hr fo
    have e1 : allTrue op (e :: e' :: r) env = (do match op, ← isTrue e env (eval e env) with | .And, false => pure false | .Or, true => pure true | _, _ => allTrue op (e' :: r) env) := rfl
    rw [e1]
    cases op with
    | And =>
      simp only [boolEx, evalE] at he
      obtain ⟨x, σ1, h1, he⟩ := bnd_ok_inv he
      split at he
      · rename_i hx
        refine TR.bind (ht ℓ σ x σ1 true h1 hx ρ s hr fo) fun ρ1 q s1 g1 er => ?_
        subst er
        exact hb.2 ℓ σ1 v σ' bb he hbb ρ1 s1 g1.hr (fo.step hr g1.st)
      · rename_i hx
        cases he
        refine TR.bind (ht ℓ σ v σ' false h1 hx ρ s hr fo) fun ρ1 q s1 g1 er => ?_
        subst er
        rw [hx] at hbb; cases hbb
        exact TR.pure g1.hr rfl
      · cases he
    | Or =>
      simp only [boolEx, evalE] at he
      obtain ⟨x, σ1, h1, he⟩ := bnd_ok_inv he
      split at he
      · rename_i hx
        cases he
        refine TR.bind (ht ℓ σ v σ' true h1 hx ρ s hr fo) fun ρ1 q s1 g1 er => ?_
        subst er
        rw [hx] at hbb; cases hbb
        exact TR.pure g1.hr rfl
      · rename_i hx
        refine TR.bind (ht ℓ σ x σ1 false h1 hx ρ s hr fo) fun ρ1 q s1 g1 er => ?_
        subst er
        exact hb.2 ℓ σ1 v σ' bb he hbb ρ1 s1 g1.hr (fo.step hr g1.st)
      · cases he

/-- chains of comparisons -/
noncomputable def PC (K : Kx) (A : Around) (env : Env) (c : CEnv) (cl : Cl) (ops : List CmpOp) (es : List Expr) (r : Ch) : Prop :=
  (∀ pos x ℓ σ v σ', evalCh cl x r ℓ σ = some (.ok v, σ') → ∀ ρ s cx, HR K ρ σ s.heap → FO K env c ℓ ρ s.heap → RV K ρ s.heap x cx → TR K A (compareChain pos cx ops (evalEach es env)) ρ s σ' fun ρ' cv s' => RV K ρ' s'.heap v cv) ∧
  (∀ pos x ℓ σ v σ' b, evalCh cl x r ℓ σ = some (.ok v, σ') → truth v = some b → ∀ ρ s cx, HR K ρ σ s.heap → FO K env c ℓ ρ s.heap → RV K ρ s.heap x cx → TR K A (testChain pos cx ops (evalEach es env)) ρ s σ' fun _ q _ => q = b)

theorem pc_one {op : CmpOp} {e : Expr} {a : Ex} (hu : A.units + 16 < cLine) (h : PE K A env c cl e a) : PC K A env c cl [op] [e] (.one (cCop op) a) := by
  constructor
  · intro pos x ℓ σ v σ' he ρ s cx hr fo rx
    simp only [evalCh] at he
    obtain ⟨y, σ1, h1, he⟩ := bnd_ok_inv he
    obtain ⟨hx, rfl⟩ := okX_inv he
    obtain ⟨b, hb, rfl⟩ := Option.map_eq_some_iff.mp hx
    show TR K A (do let rv ← holding [cx] (eval e env); standAt pos; operate [cx, rv] (compareOp op cx rv)) ρ s σ' _
    refine TR.bind (TR.hold (h ℓ σ y σ' h1 ρ s hr fo)) fun ρ1 cy s1 g1 ry => TR.stand (TR.oper ?_)
    exact cmpop_sound hb g1.hr (rx.step hr g1.st) ry rfl hu ⟨ρ1, Good.refl g1.hr, .bool _⟩
  · intro pos x ℓ σ v σ' bb he hbb ρ s cx hr fo rx
    simp only [evalCh] at he
    obtain ⟨y, σ1, h1, he⟩ := bnd_ok_inv he
    obtain ⟨hx, rfl⟩ := okX_inv he
    obtain ⟨b, hb, rfl⟩ := Option.map_eq_some_iff.mp hx
    cases hbb
    show TR K A (do let rv ← holding [cx] (eval e env); standAt pos; let c ← operate [cx, rv] (compareOp op cx rv); holding [c] (truthy c)) ρ s σ' _
    refine TR.bind (TR.hold (h ℓ σ y σ' h1 ρ s hr fo)) fun ρ1 cy s1 g1 ry => TR.stand (wpAny_bind (wpAny_operating ?_))
    exact cmpop_sound hb g1.hr (rx.step hr g1.st) ry rfl hu (wpAny_holding (wpAny_truthy_bool ⟨ρ1, Good.refl g1.hr, rfl⟩))

theorem wpAny_release {vs keep : List Value} {Q : Unit → Shared → Prop} {E : Value → Shared → Prop} {s : Shared} (h : Q () s) : wpAny K.M A (release vs keep) Q E s := fun Γ p _ => by rw [Sem.wp_release]; exact h

theorem pc_more {op op' : CmpOp} {ops : List CmpOp} {e e' : Expr} {es : List Expr} {a : Ex} {r : Ch} (hu : A.units + 16 < cLine) (h : PE K A env c cl e a) (hr' : PC K A env c cl (op' :: ops) (e' :: es) r) :
    PC K A env c cl (op :: op' :: ops) (e :: e' :: es) (.more (cCop op) a r) := by
  constructor
  · intro pos x ℓ σ v σ' he ρ s cx hr fo rx
    simp only [evalCh] at he
    obtain ⟨y, σ1, h1, he⟩ := bnd_ok_inv he
    show TR K A (do
      let rv ← holding [cx] (eval e env)
      standAt pos
      let c ← holding [cx, rv] (compareOp op cx rv)
      release [cx, rv] [c]
      if ← holding [c, rv] (truthy c) then compareChain pos rv (op' :: ops) (evalEach (e' :: es) env) else pure c) ρ s σ' _
    refine TR.bind (TR.hold (h ℓ σ y σ1 h1 ρ s hr fo)) fun ρ1 cy s1 g1 ry => TR.stand (wpAny_bind (wpAny_holding ?_))
    split at he
    · rename_i hb
      exact cmpop_sound hb g1.hr (rx.step hr g1.st) ry rfl hu (wpAny_bind (wpAny_release (wpAny_bind (wpAny_holding (wpAny_truthy_bool (hr'.1 pos y ℓ σ1 v σ' he ρ1 s1 cy g1.hr (fo.step hr g1.st) ry))))))
    · rename_i hb
      cases he
      exact cmpop_sound hb g1.hr (rx.step hr g1.st) ry rfl hu (wpAny_bind (wpAny_release (wpAny_bind (wpAny_holding (wpAny_truthy_bool (TR.pure g1.hr (.bool _)))))))
    · cases he
  · intro pos x ℓ σ v σ' bb he hbb ρ s cx hr fo rx
    simp only [evalCh] at he
    obtain ⟨y, σ1, h1, he⟩ := bnd_ok_inv he
    show TR K A (do
      let rv ← holding [cx] (eval e env)
      standAt pos
      let c ← holding [cx, rv] (compareOp op cx rv)
      release [cx, rv] [c]
      if ← holding [c, rv] (truthy c) then testChain pos rv (op' :: ops) (evalEach (e' :: es) env) else pure false) ρ s σ' _
    refine TR.bind (TR.hold (h ℓ σ y σ1 h1 ρ s hr fo)) fun ρ1 cy s1 g1 ry => TR.stand (wpAny_bind (wpAny_holding ?_))
    split at he
    · rename_i hb
      exact cmpop_sound hb g1.hr (rx.step hr g1.st) ry rfl hu (wpAny_bind (wpAny_release (wpAny_bind (wpAny_holding (wpAny_truthy_bool (hr'.2 pos y ℓ σ1 v σ' bb he hbb ρ1 s1 cy g1.hr (fo.step hr g1.st) ry))))))
    · rename_i hb
      cases he
      cases hbb
      exact cmpop_sound hb g1.hr (rx.step hr g1.st) ry rfl hu (wpAny_bind (wpAny_release (wpAny_bind (wpAny_holding (wpAny_truthy_bool (TR.pure g1.hr rfl))))))
    · cases he

theorem pe_cmp {l : Expr} {ops : List CmpOp} {cs : List Expr} {pos : Pos} {a : Ex} {r : Ch} (hm : markedEach ops cs (evalEach cs env) = evalEach cs env) (hl : PE K A env c cl l a) (hc : PC K A env c cl ops cs r) :
    PE K A env c cl (.Compare l ops cs pos) (.cmp a r) := by
  intro ℓ σ v σ' he ρ s hr fo
  simp only [evalE] at he
  obtain ⟨x, σ1, h1, he⟩ := bnd_ok_inv he
  show TR K A (do compareChain pos (← eval l env) ops (markedEach ops cs (evalEach cs env))) ρ s σ' _
  rw [hm]
  exact TR.bind (hl ℓ σ x σ1 h1 ρ s hr fo) fun ρ1 cx s1 g1 rx => hc.1 pos x ℓ σ1 v σ' he ρ1 s1 cx g1.hr (fo.step hr g1.st) rx
theorem pt_cmp {l : Expr} {ops : List CmpOp} {cs : List Expr} {pos : Pos} {a : Ex} {r : Ch} (hm : markedEach ops cs (evalEach cs env) = evalEach cs env) (hl : PE K A env c cl l a) (hc : PC K A env c cl ops cs r) :
    PT K A env c cl (.Compare l ops cs pos) (.cmp a r) := by
  intro ℓ σ v σ' b he hb ρ s hr fo
  simp only [evalE] at he
  obtain ⟨x, σ1, h1, he⟩ := bnd_ok_inv he
  show TR K A (do testChain pos (← eval l env) ops (markedEach ops cs (evalEach cs env))) ρ s σ' _
  rw [hm]
  exact TR.bind (hl ℓ σ x σ1 h1 ρ s hr fo) fun ρ1 cx s1 g1 rx => hc.2 pos x ℓ σ1 v σ' b he hb ρ1 s1 cx g1.hr (fo.step hr g1.st) rx

/-- lists of expressions -/
theorem pes_nil : PEs K A env c cl [] .nil := by
  intro pos ℓ σ vs σ' he ρ s hr fo
  cases he
  exact wpAny_items_nil ⟨ρ, Good.refl hr, .nil⟩
theorem pes_cons {e : Expr} {es : List Expr} {a : Ex} {as : Es} (hs : starEach (e :: es) env = (false, eval e env) :: starEach es env) (h : PE K A env c cl e a) (h' : PEs K A env c cl es as) : PEs K A env c cl (e :: es) (.cons a as) := by
  intro pos ℓ σ vs σ' he ρ s hr fo
  simp only [evalEs] at he
  obtain ⟨v, σ1, h1, he⟩ := bnd_ok_inv he
  obtain ⟨vs', σ2, h2, he⟩ := bnd_ok_inv he
  cases he
  refine wpAny_items_cons (wpAny_mono (h ℓ σ v σ1 h1 ρ s hr fo) (fun cv s1 hq => ?_) fun _ _ f => f) hs
  obtain ⟨ρ1, g1, rv⟩ := hq
  refine wpAny_mono (h' pos ℓ σ1 vs' σ' h2 ρ1 s1 g1.hr (fo.step hr g1.st)) (fun cvs s2 hq => ?_) fun _ _ f => f
  obtain ⟨ρ2, g2, rvs⟩ := hq
  exact ⟨ρ2, g1.trans g2, .cons (rv.step g1.hr g2.st) rvs⟩

theorem pe_tup {es : List Expr} {k : Nat} {pos : Pos} {as : Es} (h : PEs K A env c cl es as) : PE K A env c cl (.Tuple es k pos) (.tup as) := by
  intro ℓ σ v σ' he ρ s hr fo
  simp only [evalE] at he
  obtain ⟨vs, σ1, h1, he⟩ := bnd_ok_inv he
  split at he
  · rename_i hl
    cases he
    refine wpAny_Tuple (wpAny_mono (h pos ℓ σ vs σ' h1 ρ s hr fo) (fun cvs s1 hq => ?_) fun _ _ f => f)
    obtain ⟨ρ1, g1, rvs⟩ := hq
    refine ⟨list_len rvs hl, ?_⟩
    obtain ⟨g, rr⟩ := good_tup g1.hr rvs hl s1.toks
    exact ⟨_, g1.trans g, rr⟩
  · cases he
theorem pe_lst {es : List Expr} {pos : Pos} {as : Es} (h : PEs K A env c cl es as) : PE K A env c cl (.List es pos) (.lst as) := by
  intro ℓ σ v σ' he ρ s hr fo
  simp only [evalE] at he
  obtain ⟨vs, σ1, h1, he⟩ := bnd_ok_inv he
  obtain ⟨hl, rfl, rfl⟩ := mkList_inv (okH_inv he)
  refine wpAny_List (wpAny_mono (h pos ℓ σ vs σ1 h1 ρ s hr fo) (fun cvs s1 hq => ?_) fun _ _ f => f)
  obtain ⟨ρ1, g1, rvs⟩ := hq
  refine ⟨list_len rvs hl, ?_⟩
  obtain ⟨g, rr⟩ := good_list (n := 0) g1.hr rvs hl s1.toks
  exact ⟨_, g1.trans g, rr⟩

theorem pe_idx {v i : Expr} {pos : Pos} {a b : Ex} (h : PE K A env c cl v a) (h' : PE K A env c cl i b) : PE K A env c cl (.Subscript v i pos) (.idx a b) := by
  intro ℓ σ w σ' he ρ s hr fo
  simp only [evalE] at he
  obtain ⟨x, σ1, h1, he⟩ := bnd_ok_inv he
  obtain ⟨y, σ2, h2, he⟩ := bnd_ok_inv he
  obtain ⟨hx, rfl⟩ := okX_inv he
  refine Subscript_ (wpAny_mono (h ℓ σ x σ1 h1 ρ s hr fo) (fun cx s1 hq => ?_) fun _ _ f => f)
  obtain ⟨ρ1, g1, rx⟩ := hq
  refine wpAny_mono (h' ℓ σ1 y σ' h2 ρ1 s1 g1.hr (fo.step hr g1.st)) (fun cy s2 hq => ?_) fun _ _ f => f
  obtain ⟨ρ2, g2, ry⟩ := hq
  exact TR.after (g1.trans g2) (getIdx_sound hx g2.hr (rx.step g1.hr g2.st) ry)

theorem po_no : PO K A env c cl none .no := by
  intro ℓ σ v σ' he ρ s hr fo
  cases he
  exact TR.pure hr .none
theorem po_yes {e : Expr} {a : Ex} (h : PE K A env c cl e a) : PO K A env c cl (some e) (.yes a) := fun ℓ σ v σ' he ρ s hr fo => h ℓ σ v σ' he ρ s hr fo

theorem pe_slc {v : Expr} {lo hi st : Option Expr} {p pos : Pos} {a : Ex} {x y z : Oe} (h : PE K A env c cl v a) (hl : PO K A env c cl lo x) (hh : PO K A env c cl hi y) (hs : PO K A env c cl st z) :
    PE K A env c cl (.Subscript v (.Slice lo hi st p) pos) (.slc a x y z) := by
  intro ℓ σ w σ' he ρ s hr fo
  simp only [evalE] at he
  obtain ⟨o, σ1, h1, he⟩ := bnd_ok_inv he
  obtain ⟨l, σ2, h2, he⟩ := bnd_ok_inv he
  obtain ⟨u, σ3, h3, he⟩ := bnd_ok_inv he
  obtain ⟨t, σ4, h4, he⟩ := bnd_ok_inv he
  have he := okH_inv he
  refine Subscript_ (wpAny_mono (h ℓ σ o σ1 h1 ρ s hr fo) (fun cx s1 hq => ?_) fun _ _ f => f)
  obtain ⟨ρ1, g1, rx⟩ := hq
  have fo1 := fo.step hr g1.st
  refine wpAny_Slice (wpAny_mono (hl ℓ σ1 l σ2 h2 ρ1 s1 g1.hr fo1) (fun cl' s2 hq => ?_) fun _ _ f => f)
  obtain ⟨ρ2, g2, rl⟩ := hq
  have fo2 := fo1.step g1.hr g2.st
  refine wpAny_mono (hh ℓ σ2 u σ3 h3 ρ2 s2 g2.hr fo2) (fun cu s3 hq => ?_) fun _ _ f => f
  obtain ⟨ρ3, g3, ru⟩ := hq
  have fo3 := fo2.step g2.hr g3.st
  refine wpAny_mono (hs ℓ σ3 t σ4 h4 ρ3 s3 g3.hr fo3) (fun ct s4 hq => ?_) fun _ _ f => f
  obtain ⟨ρ4, g4, rt⟩ := hq
  have g5 := Good.tmp g4.hr { cls := .type "slice", data := .fields #[cl', cu, ct] } s4.toks
  have r1 := (((rx.step g1.hr g2.st).step g2.hr g3.st).step g3.hr g4.st).step g4.hr g5.st
  have r2 := ((rl.step g2.hr g3.st).step g3.hr g4.st).step g4.hr g5.st
  have r3 := (ru.step g3.hr g4.st).step g4.hr g5.st
  have r4 := rt.step g4.hr g5.st
  exact TR.after ((((g1.trans g2).trans g3).trans g4).trans g5) (slice_sound he g5.hr r1 r2 r3 r4 (Heap.IsSliceOf.new ..))
end
end Mini

/-! Comprehensions. -/
set_option autoImplicit false
namespace Mini
open PySem PyProof.Rows PySem.SeqAt

noncomputable def PI (K : Kx) (A : Around) (env : Env) (c : CEnv) (cl : Cl) (e : Expr) (it : It) : Prop :=
  ∀ ℓ σ src σ', evalIt cl it ℓ σ = some (.ok src, σ') → ∀ ρ s, HR K ρ σ s.heap → FO K env c ℓ ρ s.heap →
    wpAny K.M A (eval e env) (fun x s1 => wpAny K.M A (pyIter x) (fun itv s2 => ∃ ρ' I k, itv = .ref I ∧ Good K ρ s ρ' σ' s2 ∧ ItOK K ρ' I 0 s2.heap src k ∧ src.keep σ' ∧ s.heap.get? I = none) (fun _ _ => False) s1) (fun _ _ => False) s

noncomputable def PF (K : Kx) (A : Around) (env : Env) (c : CEnv) (cl : Cl) (es : List Expr) (a : Es) : Prop :=
  ∀ ℓ σ b σ', evalIfs cl a ℓ σ = some (.ok b, σ') → ∀ ρ s, HR K ρ σ s.heap → FO K env c ℓ ρ s.heap →
    TR K A (forIn es true fun c r => if r = true then do let ok ← isTrue c env (eval c env); pure (ForInStep.yield ok) else pure (ForInStep.yield r)) ρ s σ' fun _ r _ => r = b

section
variable {K : Kx} {A : Around} {env : Env} {c : CEnv} {cl : Cl} {T : Tabs}

theorem Good.back {ρ ρ' : List Addr} {σ' : H} {s s' : Shared} (g : Good K ρ s ρ' σ' s') {a : Addr} (h : s'.heap.get? a = none) : s.heap.get? a = none := by
  cases e : s.heap.get? a with
  | none => rfl
  | some o =>
    by_cases ha : a ∈ ρ
    · have : a ∈ ρ' := g.st.pre.subset ha
      obtain ⟨ob, e', _⟩ := g.hr.at_ this
      rw [h] at e'; cases e'
    · have := g.st.fr a o e ha
      rw [h] at this; cases this

theorem pi_ex {e : Expr} {a : Ex} (h : PE K A env c cl e a) : PI K A env c cl e (.ex a) := by
  intro ℓ σ src σ' he ρ s hr fo
  simp only [evalIt] at he
  obtain ⟨x, σ1, h1, he⟩ := bnd_ok_inv he
  refine wpAny_mono (h ℓ σ x σ1 h1 ρ s hr fo) (fun cx s1 hq => ?_) fun _ _ f => f
  obtain ⟨ρ1, g1, rx⟩ := hq
  have e1 : σ' = σ1 := by
    cases x <;> simp at he
    · exact he.2.symm
    · split at he
      · cases he; rfl
      · cases he
    · exact he.2.symm
  subst e1
  refine it_make (x := x) (src := src) ?_ g1.hr rx fun h' k g ok hk => ⟨ρ1, _, k, rfl, g1.trans g, ok, hk, g1.back (get?_size _)⟩
  cases x <;> exact he

theorem pf_nil : PF K A env c cl [] .nil := by
  intro ℓ σ b σ' he ρ s hr fo
  cases he
  exact wpAny_tests_nil ⟨ρ, Good.refl hr, rfl⟩
theorem pf_false (es : List Expr) {ρ : List Addr} {σ : H} {s : Shared} (hr : HR K ρ σ s.heap) :
    TR K A (forIn es false fun c r => if r = true then do let ok ← isTrue c env (eval c env); pure (ForInStep.yield ok) else pure (ForInStep.yield r)) ρ s σ fun _ r _ => r = false := by
  induction es with
  | nil => exact TR.pure hr rfl
  | cons e es ih => rw [List.forIn_cons]; simp only [Bool.false_eq_true, if_false, pure_bind]; exact ih
theorem pf_cons {e : Expr} {es : List Expr} {a : Ex} {as : Es} (h : PT K A env c cl e a) (h' : PF K A env c cl es as) : PF K A env c cl (e :: es) (.cons a as) := by
  intro ℓ σ b σ' he ρ s hr fo
  simp only [evalIfs] at he
  obtain ⟨v, σ1, h1, he⟩ := bnd_ok_inv he
  rw [List.forIn_cons]
  simp only [if_true, bind_assoc, pure_bind]
  split at he
  · rename_i hv
    refine TR.bind (h ℓ σ v σ1 true h1 hv ρ s hr fo) fun ρ1 q s1 g1 e => ?_
    subst e
    exact h' ℓ σ1 b σ' he ρ1 s1 g1.hr (fo.step hr g1.st)
  · rename_i hv
    cases he
    refine TR.bind (h ℓ σ v σ' false h1 hv ρ s hr fo) fun ρ1 q s1 g1 e => ?_
    subst e
    exact pf_false es g1.hr
  · cases he

/-- the closure of a comprehension -/
noncomputable def closOf (env : Env) : List (Str × NameKind) → List (Str × Addr) → List (Str × Addr)
  | [], acc => acc
  | (n, k) :: r, acc => closOf env r (if k == .free then (n, (env.cells.lookup n).getD 0) :: acc else acc)

theorem closureFor_eq (env : Env) (sc : Scope) (h : ∀ n, (n, NameKind.free) ∈ sc.names → (env.cells.lookup n).isSome = true) : closureFor sc env = pure (closOf env sc.names []) := by
  have key : ∀ (l : List (Str × NameKind)) (acc : List (Str × Addr)), (∀ n, (n, NameKind.free) ∈ l → (env.cells.lookup n).isSome = true) →
      (forIn l acc fun x cs => if x.2 == NameKind.free then do let a ← cellOf env x.1; pure (ForInStep.yield ((x.1, a) :: cs)) else pure (ForInStep.yield cs) : Sem (List (Str × Addr))) = pure (closOf env l acc) := by
    intro l
    induction l with
    | nil => intro acc _; rfl
    | cons p l ih =>
      intro acc hp
      obtain ⟨n, k⟩ := p
      rw [List.forIn_cons]
      simp only [closOf]
      by_cases hk : k = .free
      · subst hk
        obtain ⟨a, ha⟩ := Option.isSome_iff_exists.mp (hp n List.mem_cons_self)
        have hc : cellOf env n = pure a := by unfold cellOf; rw [ha]
        simp only [beq_self_eq_true, if_true, hc, pure_bind, ha, Option.getD_some]
        exact ih _ fun m hm => hp m (List.mem_cons_of_mem _ hm)
      · have hb : (k == NameKind.free) = false := by simpa using hk
        simp only [hb, Bool.false_eq_true, if_false, pure_bind]
        exact ih _ fun m hm => hp m (List.mem_cons_of_mem _ hm)
  have := key sc.names [] h
  unfold closureFor
  simp only [bind_pure]
  rw [← this]

theorem closOf_mem {x : Str} {a : Addr} : ∀ {l : List (Str × NameKind)} {acc : List (Str × Addr)}, (x, a) ∈ closOf env l acc → (x, a) ∈ acc ∨ ((x, NameKind.free) ∈ l ∧ a = (env.cells.lookup x).getD 0)
  | [], acc, h => .inl h
  | (n, k) :: r, acc, h => by
    rcases closOf_mem (l := r) h with h | h
    · split at h
      · rename_i hk
        rcases List.mem_cons.mp h with e | h
        · cases e; right; exact ⟨by rw [← beq_iff_eq.mp hk]; exact List.mem_cons_self, rfl⟩
        · exact .inl h
      · exact .inl h
    · exact .inr ⟨List.mem_cons_of_mem _ h.1, h.2⟩

theorem closOf_lookup {x : Str} : ∀ {l : List (Str × NameKind)} {acc : List (Str × Addr)}, ((x, NameKind.free) ∈ l ∨ acc.lookup x = some ((env.cells.lookup x).getD 0)) → (closOf env l acc).lookup x = some ((env.cells.lookup x).getD 0)
  | [], acc, h => by
    rcases h with h | h
    · cases h
    · exact h
  | (n, k) :: r, acc, h => by
    simp only [closOf]
    apply closOf_lookup (l := r)
    by_cases hr : (x, NameKind.free) ∈ r
    · exact .inl hr
    · right
      by_cases hk : k = .free
      · subst hk
        simp only [beq_self_eq_true, if_true, List.lookup_cons]
        cases hx : x == n with
        | true => simp only; rw [beq_iff_eq.mp hx]
        | false =>
          simp only
          rcases h with h | h
          · rcases List.mem_cons.mp h with e | h
            · cases e; simp at hx
            · exact absurd h hr
          · exact h
      · have hb : (k == NameKind.free) = false := by simpa using hk
        simp only [hb, Bool.false_eq_true, if_false]
        rcases h with h | h
        · rcases List.mem_cons.mp h with e | h
          · cases e; exact absurd rfl hk
          · exact absurd h hr
        · exact h

theorem nodup_lookup {α : Type} : ∀ {l : List (Str × α)} {x : Str} {a : α}, (l.map (·.1)).Nodup → (x, a) ∈ l → l.lookup x = some a
  | (n, b) :: r, x, a, hn, h => by
    rw [List.lookup_cons]
    rcases List.mem_cons.mp h with e | h'
    · cases e; simp
    · have hne : x ≠ n := by
        intro e
        rw [List.map_cons, List.nodup_cons] at hn
        exact hn.1 (List.mem_map.mpr ⟨_, h', e⟩)
      have : (x == n) = false := by simpa using hne
      rw [this]
      rw [List.map_cons, List.nodup_cons] at hn
      exact nodup_lookup hn.2 h'

structure CompOK (c : CEnv) (sc : Scope) : Prop where
  kind : sc.kind = .function
  nd : (sc.names.map (·.1)).Nodup
  nocell : ∀ p ∈ sc.names, p.2 ≠ .cell
  frees : ∀ n, (n, NameKind.free) ∈ sc.names → c.names.lookup n = some .cell
theorem compOK_of {sc : Scope} (h : compOK c sc = true) : CompOK c sc := by
  simp only [compOK, Bool.and_eq_true, decide_eq_true_eq, List.all_eq_true, beq_iff_eq] at h
  obtain ⟨⟨⟨⟨h1, _⟩, _⟩, h2⟩, h3⟩ := h
  refine ⟨h1, h2, fun p hp e => ?_, fun n hn => ?_⟩
  · have := (h3 p hp).1; rw [e] at this; simp at this
  · have := (h3 _ hn).2; simpa using this

/-- a name that the block takes from outside is a cell there; its own are local -/
theorem compNames_mem {sc : Scope} (ok : CompOK c sc) {x : Str} {k : NameKind} (h : (x, k) ∈ compNames c sc) : (k = .cell ∧ (x, NameKind.free) ∈ sc.names) ∨ (k ≠ .cell ∧ (x, k) ∈ sc.names) := by
  unfold compNames at h
  obtain ⟨⟨n, k'⟩, h1, h2⟩ := List.mem_map.mp h
  simp only at h2
  split at h2
  · rename_i hc
    simp only [Bool.and_eq_true, beq_iff_eq] at hc
    cases h2
    exact .inl ⟨rfl, hc.1 ▸ h1⟩
  · cases h2
    exact .inr ⟨ok.nocell _ h1, h1⟩
theorem compNames_keys (sc : Scope) : (compNames c sc).map (·.1) = sc.names.map (·.1) := by
  unfold compNames
  rw [List.map_map]
  apply List.map_congr_left
  rintro ⟨n, k⟩ _
  simp only [Function.comp]
  split <;> rfl

theorem own_lookup {x : Str} {i : Nat} {n0 : Nat} {l : List (Str × NameKind)} (h : (x, i) ∈ l.zipIdx.map fun p => (p.1.1, n0 + p.2)) : ∃ j k, i = n0 + j ∧ j < l.length ∧ l[j]? = some (x, k) := by
  obtain ⟨⟨⟨n, k⟩, j⟩, h1, h2⟩ := List.mem_map.mp h
  cases h2
  obtain ⟨h3, h4⟩ := List.mem_zipIdx' h1
  exact ⟨j, k, rfl, h3, by rw [List.getElem?_eq_getElem h3, ← h4]⟩

theorem lookup_append {α : Type} {l l' : List (Str × α)} {x : Str} : (l ++ l').lookup x = match l.lookup x with | some a => some a | .none => l'.lookup x := by
  induction l with
  | nil => rfl
  | cons p l ih =>
    obtain ⟨n, a⟩ := p
    rw [List.cons_append, List.lookup_cons, List.lookup_cons]
    cases x == n <;> simp [ih]

/-- where a name's slot comes from -/
theorem compSlots_inv {sc : Scope} {x : Str} {i : Nat} (h : (compSlots c sc).lookup x = some i) :
    (∃ j, i = c.next + j ∧ j < (sc.names.filter fun p => p.2 == .local).length ∧ (sc.names.filter fun p => p.2 == .local)[j]? = some (x, .local)) ∨ ((x, NameKind.free) ∈ sc.names ∧ c.slots.lookup x = some i) := by
  have hm := mem_of_lookup h
  unfold compSlots at hm
  rcases List.mem_append.mp hm with hm | hm
  · obtain ⟨j, k, rfl, h1, h2⟩ := own_lookup hm
    left
    have hk : k = .local := by
      have := List.mem_filter.mp (List.mem_of_getElem? h2)
      simpa using this.2
    subst hk
    exact ⟨j, rfl, h1, h2⟩
  · right
    obtain ⟨⟨n, k⟩, h1, h2⟩ := List.mem_filterMap.mp hm
    simp only at h2
    split at h2
    · rename_i hc
      simp only [Bool.and_eq_true, beq_iff_eq] at hc
      obtain ⟨j, hj, e⟩ := Option.map_eq_some_iff.mp h2
      cases e
      exact ⟨hc.1 ▸ h1, hj⟩
    · cases h2

/-- the block's frame at its start -/
theorem comp_FO {ℓ : L} {ρ : List Addr} {sc : Scope} {C : Addr} {h : Heap} (fo : FO K env c ℓ ρ h) (ok : CompOK c sc) (hC : h.Ns C fun _ => none) (hCρ : C ∉ ρ) (hC0 : K.h0.get? C = none) (hCn : ∀ x a, (x, a) ∈ env.cells → a ≠ C) :
    FO K (compEnvC sc (closOf env sc.names []) C env) (compC c sc) ℓ ρ h := by
  have hnames : (relabel sc env).names = compNames c sc := by
    unfold relabel compNames
    apply List.map_congr_left
    rintro ⟨n, k⟩ _
    simp only [fo.kind, show env.kindOf n = c.names.lookup n from by unfold Env.kindOf; rw [fo.names], beq_self_eq_true, Bool.and_true]
  have hmem : ∀ x a, (x, a) ∈ closOf env sc.names [] → (x, NameKind.free) ∈ sc.names ∧ env.cells.lookup x = some a := by
    intro x a hm
    rcases closOf_mem hm with h | ⟨h1, h2⟩
    · cases h
    · obtain ⟨a', _, h3, _⟩ := fo.cell x (ok.frees x h1)
      rw [h3] at h2; simp at h2
      exact ⟨h1, by rw [h2]; exact h3⟩
  refine ⟨ok.kind, hnames, fo.glob, fo.blts, ⟨_, hC, fun x i v h1 h2 h3 => ?_⟩, fun x hx => ?_, fun x y i h1 h2 => ?_, fun x y a h1 h2 => ?_, ⟨hCρ, hC0⟩, fun i v hi => ?_, fun x i hx => ?_, fun x a hx => ?_⟩
  · exfalso
    rcases compSlots_inv h2 with ⟨j, rfl, _, _⟩ | ⟨hf, _⟩
    · exact fo.free _ v (by omega) h3
    · have hc : (x, NameKind.cell) ∈ compNames c sc := by
        unfold compNames
        refine List.mem_map.mpr ⟨_, hf, ?_⟩
        simp [ok.frees x hf]
      have := nodup_lookup (by rw [compNames_keys]; exact ok.nd) hc
      have h1' : (compNames c sc).lookup x = some .local := h1
      rw [this] at h1'; cases h1'
  · have hx' : (compNames c sc).lookup x = some .cell := hx
    rcases compNames_mem ok (mem_of_lookup hx') with ⟨_, hf⟩ | ⟨hne, _⟩
    · obtain ⟨a, o, h1, h2, h3⟩ := fo.cell x (ok.frees x hf)
      refine ⟨a, o, ?_, h2, fun i v g1 g2 => ?_⟩
      · have := closOf_lookup (env := env) (acc := []) (.inl hf)
        rw [h1] at this; exact this
      · rcases compSlots_inv g1 with ⟨j, rfl, _, g3⟩ | ⟨_, g3⟩
        · exact absurd g2 (fo.free _ v (by omega))
        · exact h3 i v g3 g2
    · exact absurd rfl hne
  · rcases compSlots_inv h1 with ⟨j, rfl, b1, g1⟩ | ⟨f1, g1⟩ <;> rcases compSlots_inv h2 with ⟨j', e', b2, g2⟩ | ⟨f2, g2⟩
    · have : j = j' := by omega
      subst this
      rw [g1] at g2; cases g2; rfl
    · have := fo.lt _ _ g2; omega
    · have := fo.lt _ _ g1; omega
    · exact fo.inj x y i g1 g2
  · exact fo.capart x y a (mem_of_lookup (hmem x a h1).2) (mem_of_lookup (hmem y a h2).2)
  · have : c.next ≤ i := by have hi' : c.next + (sc.names.filter fun p => p.2 == .local).length ≤ i := hi; omega
    exact fo.free i v this
  · show i < c.next + (sc.names.filter fun p => p.2 == .local).length
    rcases compSlots_inv hx with ⟨j, rfl, b1, _⟩ | ⟨_, g1⟩
    · omega
    · have := fo.lt _ _ g1; omega
  · have hl := (hmem x a hx).2
    obtain ⟨g1, g2, _, g4⟩ := fo.cnew x a (mem_of_lookup hl)
    exact ⟨g1, g2, hCn x a (mem_of_lookup hl), g4⟩
end
end Mini

/-! The loop of a comprehension. -/
set_option autoImplicit false
namespace Mini
open PySem PyProof.Rows PySem.SeqAt

section
variable {K : Kx} {A : Around} {env : Env} {c : CEnv} {cl : Cl} {T : Tabs}

theorem list_ne_tup {cvs ws : List Value} {m : Nat} (h : some (listObj cvs m) = some (tupObj ws)) : False := by
  have h1 := congrArg (fun o => o.map Obj.cls) h
  exact absurd (Option.some.inj h1) (show ¬ Value.type "list" = Value.type "tuple" by decide)

theorem FO.but {ℓ : L} {ρ : List Addr} {h h' : Heap} {I : Addr} (fo : FO K env c ℓ ρ h) (hI : I ≠ env.locals) (hIc : ∀ x a, (x, a) ∈ env.cells → a ≠ I) (hnt : ∀ vs, h.get? I ≠ some (tupObj vs)) (hk : ∀ b o, b ≠ I → h.get? b = some o → h'.get? b = some o) : FO K env c ℓ ρ h' := by
  refine ⟨fo.kind, fo.names, fo.glob, fo.blts, ?_, fun x hx => ?_, fo.inj, fo.capart, fo.lnew, fo.free, fo.lt, fun x a hx => ?_⟩
  · obtain ⟨m, hn, hm⟩ := fo.ns
    exact ⟨m, Ns.at hn fun o e => hk _ _ (fun e' => hI e'.symm) e, fun x i v h1 h2 h3 => let ⟨cv, g1, g2⟩ := hm x i v h1 h2 h3; ⟨cv, g1, g2.but hnt hk⟩⟩
  · obtain ⟨a, o, g1, g2, g3⟩ := fo.cell x hx
    exact ⟨a, o, g1, IsCell.at g2 fun o e => hk _ _ (hIc x a (mem_of_lookup g1)) e, fun i v h1 h2 => let ⟨cv, e1, e2⟩ := g3 i v h1 h2; ⟨cv, e1, e2.but hnt hk⟩⟩
  · obtain ⟨g1, g2, g3, o, g4, g5⟩ := fo.cnew x a hx
    exact ⟨g1, g2, g3, o, hk _ _ (hIc x a hx) g4, g5⟩

theorem StepX.weaken {X Y ρ ρ' : List Addr} {s s' : Shared} (x : StepX X ρ s ρ' s') (h : ∀ a ∈ X, a ∈ Y) : StepX Y ρ s ρ' s' := ⟨x.pre, fun b o e h1 h2 => x.fr b o e h1 fun h3 => h2 (h b h3), x.fresh, x.gens, x.os⟩
theorem StepX.one {I : Addr} {ρ : List Addr} {s : Shared} {h' : Heap} {t : Nat} (hk : ∀ b o, b ≠ I → s.heap.get? b = some o → h'.get? b = some o) : StepX [I] ρ s ρ { s with heap := h', toks := t } :=
  ⟨List.prefix_refl _, fun b o e _ hb => hk b o (fun e' => hb (by rw [e']; exact List.mem_cons_self)) e, fun _ h => .inl h, rfl, rfl⟩

/-- what stands between two turns -/
structure CInv (K : Kx) (cenv : Env) (c' : CEnv) (src : Src) (k : ItK) (body : L → H → X (Option V)) (tg : Nat) (vs : List V) (σ2 : H) (ρ2 : List Addr) (s4 : Shared) (I D C : Addr) (i : Nat) (s : Shared) (ρ' : List Addr) (σ' : H) (acc : List V) (ℓ' : L)
    (cacc : List Value) (m : Nat) : Prop where
  run : compL body tg src.keep (src.vs.drop i) acc ℓ' σ' = some (.ok vs, σ2)
  hr : HR K ρ' σ' s.heap
  st : StepX [I, D, C] ρ2 s4 ρ' s
  it : ItOK K ρ' I i s.heap src k
  keep : src.keep σ'
  d : s.heap.get? D = some (listObj cacc m)
  rv : RVs K ρ' s.heap acc cacc
  len : acc.length ≤ lenMax
  off : D ∉ ρ'
  fo : FO K cenv c' ℓ' ρ' s.heap
  le : i ≤ src.vs.length

theorem compL_nil {body : L → H → X (Option V)} {tg : Nat} {keep : H → Prop} {acc : List V} {ℓ : L} {σ : H} {vs : List V} {σ2 : H} (h : compL body tg keep [] acc ℓ σ = some (.ok vs, σ2)) : vs = acc ∧ σ2 = σ := by
  simp [compL] at h; exact ⟨h.1.symm, h.2.symm⟩
theorem compL_cons {body : L → H → X (Option V)} {tg : Nat} {keep : H → Prop} {v : V} {r acc : List V} {ℓ : L} {σ : H} {vs : List V} {σ2 : H} (h : compL body tg keep (v :: r) acc ℓ σ = some (.ok vs, σ2)) :
    ∃ ℓ1 y σ1, setL ℓ tg v = some ℓ1 ∧ body ℓ1 σ = some (.ok y, σ1) ∧ keep σ1 ∧ acc.length < lenMax ∧ compL body tg keep r (match y with | some w => acc ++ [w] | .none => acc) ℓ1 σ1 = some (.ok vs, σ2) := by
  simp only [compL] at h
  split at h
  · cases h
  · rename_i ℓ1 h1
    split at h
    · rename_i y σ1 h2
      split at h
      · rename_i hc; exact ⟨ℓ1, y, σ1, h1, h2, hc.1, hc.2, h⟩
      · cases h
    · cases h

theorem comp_loop {elt iter : Expr} {x : Str} {px pos : Pos} {ifs : List Expr} {sc : Scope} {cenv : Env} {c' : CEnv} {a : Ex} {fs : Es} {tg : Nat} {src : Src} {k : ItK} {vs : List V} {σ2 : H} {ρ2 : List Addr} {s4 : Shared} {I D C : Addr}
    (hh : A.handled = none) (hx : cVar c' x = some tg) (hxl : c'.names.lookup x = some .local) (hcC : cenv.locals = C) (hID : I ≠ D) (hIC : I ≠ C) (hDC : D ≠ C) (hcells : ∀ y b, (y, b) ∈ cenv.cells → b ≠ I ∧ b ≠ D)
    (hD0 : K.h0.get? D = none) (hs4 : ∀ b ∈ [I, D, C], ∃ o, s4.heap.get? b = some o)
    (he : PE K A cenv c' cl elt a) (hf : PF K A cenv c' cl ifs fs) {RR : Shared → Prop}
    (hend : ∀ s ρ' cacc m, HR K ρ' σ2 s.heap → StepX [I, D, C] ρ2 s4 ρ' s → s.heap.get? D = some (listObj cacc m) → RVs K ρ' s.heap vs cacc → vs.length ≤ lenMax → D ∉ ρ' → (∃ m', s.heap.Ns C m') → RR s)
    {E' : Value → Shared → Prop} :
    ∀ (i : Nat) (s : Shared) (ρ' : List Addr) (σ' : H) (acc : List V) (ℓ' : L) (cacc : List Value) (m : Nat),
      CInv K cenv c' src k (fun ℓ' σ' => bnd (evalIfs cl fs ℓ' σ') fun b σ2 => if b then bnd (evalE cl a ℓ' σ2) fun v σ3 => some (.ok (some v), σ3) else some (.ok .none, σ2)) tg vs σ2 ρ2 s4 I D C i s ρ' σ' acc ℓ' cacc m →
      codeAny K.M A (.compLoop (.ListComp elt [⟨.Name x px, iter, ifs, 0⟩] sc pos) 0 (.ref I) (.ref D) cenv) (fun r s' => match r with | .ok f => f = .next ∧ RR s' | .error e => E' e s') s := by
  intro i s ρ' σ' acc ℓ' cacc m inv
  refine codeAny_compLoop_tests (fun n s => ∃ i ρ' σ' acc ℓ' cacc m, n = src.vs.length - i ∧ CInv K cenv c' src k _ tg vs σ2 ρ2 s4 I D C i s ρ' σ' acc ℓ' cacc m) (fun n s hI => ?_) _ ⟨i, ρ', σ', acc, ℓ', cacc, m, rfl, inv⟩
  clear inv i ρ' σ' acc ℓ' cacc m
  obtain ⟨i, ρ', σ', acc, ℓ', cacc, m, hn, inv⟩ := hI
  have hDnt : ∀ ws, s.heap.get? D ≠ some (tupObj ws) := by intro ws e; rw [inv.d] at e; exact list_ne_tup e
  rcases Nat.lt_or_ge i src.vs.length with hi | hi
  · -- one more
    have hdrop : src.vs.drop i = src.vs[i] :: src.vs.drop (i + 1) := List.drop_eq_getElem_cons hi
    have hrun := inv.run
    rw [hdrop] at hrun
    obtain ⟨ℓ1, y, σb, hset, hbody, hkb, hlen, hrun⟩ := compL_cons hrun
    refine it_next hh inv.it inv.hr inv.keep (v := src.vs[i]) (List.getElem?_eq_getElem hi) fun cv h1 tk1 hk1 hr1 rv1 it1 => ?_
    have hInt := inv.it.not_tup
    have foA : FO K cenv c' ℓ' ρ' h1 := inv.fo.but (by rw [hcC]; exact hIC) (fun y b hy => (hcells y b hy).1) hInt hk1
    have dA : h1.get? D = some (listObj cacc m) := hk1 _ _ (fun e => hID e.symm) inv.d
    have rvA : RVs K ρ' h1 acc cacc := inv.rv.but hInt hk1
    have hex : ∀ b ∈ [I, D, C], ∃ o, s.heap.get? b = some o := by
      intro b hb
      simp only [List.mem_cons, List.not_mem_nil, or_false] at hb
      rcases hb with rfl | rfl | rfl
      · obtain ⟨o, e, _⟩ := inv.it.st.obj; exact ⟨o, e⟩
      · exact ⟨_, inv.d⟩
      · obtain ⟨m', hn', _⟩ := inv.fo.ns; rw [hcC] at hn'; exact Ns.ex hn'
    have stA : StepX [I, D, C] ρ2 s4 ρ' { s with heap := h1, toks := tk1 } := inv.st.trans ((StepX.one hk1).weaken (by simp)) hex
    refine wpAny_assign_Name (store_sound (s := { s with heap := h1, toks := tk1 }) foA hr1 hx hset rv1 fun sB b hb hrB stB foB => ?_)
    have hbC : b = C := by
      rcases hb with h | ⟨h, _⟩
      · rw [h, hcC]
      · rw [hxl] at h; cases h
    subst hbC
    obtain ⟨mC, hnC, _⟩ := foA.ns
    rw [hcC] at hnC
    have hCnt := Ns.not_tup hnC
    have hkB : ∀ z o, z ≠ b → h1.get? z = some o → z ∉ ρ' → sB.heap.get? z = some o := fun z o hz e hzr => stB.fr z o e hzr (by simpa using hz)
    have tupB : ∀ z ws, h1.get? z = some (tupObj ws) → sB.heap.get? z = some (tupObj ws) := fun z ws e => hkB z _ (by rintro rfl; exact hCnt _ e) e fun hz => by
      obtain ⟨ob, e', hc⟩ := hr1.at_ hz; rw [e] at e'; cases e'; exact hc rfl
    have dB : sB.heap.get? D = some (listObj cacc m) := hkB D _ hDC dA inv.off
    have rvB : RVs K ρ' sB.heap acc cacc := rvA.mono (List.prefix_refl _) tupB
    have itB : ItOK K ρ' I (i + 1) sB.heap src k := by
      obtain ⟨o, eo, _⟩ := it1.st.obj
      have hIB : ∀ o, h1.get? I = some o → sB.heap.get? I = some o := fun o e => hkB I o hIC e it1.off
      refine ⟨?_, ?_, it1.off, it1.new⟩
      · have h := it1.st
        cases k with
        | list n ax => obtain ⟨g1, o, e, g2⟩ := h; exact ⟨g1, o, hIB _ e, g2⟩
        | tup ax cvs => obtain ⟨⟨o, e, g2⟩, g3⟩ := h; exact ⟨⟨o, hIB _ e, g2⟩, tupB _ _ g3⟩
        | frz ax cvs m => obtain ⟨⟨o, e, g2⟩, g3⟩ := h; exact ⟨⟨o, hIB _ e, g2⟩, g3⟩
        | rng a m => exact hIB _ h
      · have h := it1.v
        cases k with
        | list n ax => exact h
        | tup ax cvs => exact ⟨h.1.mono (List.prefix_refl _) tupB, h.2⟩
        | frz ax cvs m => exact ⟨h.1.mono (List.prefix_refl _) tupB, h.2⟩
        | rng a m => exact h
    have hexA : ∀ z ∈ [I, D, b], ∃ o, h1.get? z = some o := by
      intro z hz
      simp only [List.mem_cons, List.not_mem_nil, or_false] at hz
      rcases hz with rfl | rfl | rfl
      · obtain ⟨o, e, _⟩ := it1.st.obj; exact ⟨o, e⟩
      · exact ⟨_, dA⟩
      · exact Ns.ex hnC
    have stB' : StepX [I, D, b] ρ2 s4 ρ' sB := stA.trans (stB.weaken (by simp)) hexA
    have hexB : ∀ z ∈ [I, D, b], ∃ o, sB.heap.get? z = some o := by
      intro z hz
      simp only [List.mem_cons, List.not_mem_nil, or_false] at hz
      rcases hz with rfl | rfl | rfl
      · obtain ⟨o, e, _⟩ := itB.st.obj; exact ⟨o, e⟩
      · exact ⟨_, dB⟩
      · obtain ⟨m', hn', _⟩ := foB.ns; rw [hcC] at hn'; exact Ns.ex hn'
    obtain ⟨bb, σt, ht, hbody⟩ := bnd_ok_inv hbody
    refine wpAny_mono (hf ℓ1 σ' bb σt ht ρ' sB hrB foB) (fun q sC hq => ?_) fun _ _ f => f.elim
    obtain ⟨ρ1, gC, rfl⟩ := hq
    have foC := foB.step hrB gC.st
    have dC : sC.heap.get? D = some (listObj cacc m) := gC.st.fr _ _ dB inv.off
    have offC : D ∉ ρ1 := fun hm => by
      rcases gC.st.fresh D hm with h | h
      · exact inv.off h
      · rw [dB] at h; cases h
    have stC : StepX [I, D, b] ρ2 s4 ρ1 sC := stB'.trans (gC.st.toX _) hexB
    cases q with
    | false =>
      simp only [Bool.false_eq_true, if_false] at hbody ⊢
      cases hbody
      refine ⟨src.vs.length - (i + 1), by omega, i + 1, ρ1, _, acc, ℓ1, cacc, m, rfl, ⟨hrun, gC.hr, stC, itB.step hrB gC.st, hkb, dC, rvB.step hrB gC.st, inv.len, offC, foC, hi⟩⟩
    | true =>
      simp only [if_true] at hbody ⊢
      obtain ⟨w, σe, hw, hbody⟩ := bnd_ok_inv hbody
      cases hbody
      refine wpAny_mono (he ℓ1 σt w _ hw ρ1 sC gC.hr foC) (fun cw sD hq => ?_) fun _ _ f => f.elim
      obtain ⟨ρd, gD, rw'⟩ := hq
      have foD := foC.step gC.hr gD.st
      have dD : sD.heap.get? D = some (listObj cacc m) := gD.st.fr _ _ dC offC
      have offD : D ∉ ρd := fun hm => by
        rcases gD.st.fresh D hm with h | h
        · exact offC h
        · rw [dC] at h; cases h
      have hexC : ∀ z ∈ [I, D, b], ∃ o, sC.heap.get? z = some o := by
        intro z hz
        simp only [List.mem_cons, List.not_mem_nil, or_false] at hz
        rcases hz with rfl | rfl | rfl
        · obtain ⟨o, e, _⟩ := (itB.step hrB gC.st).st.obj; exact ⟨o, e⟩
        · exact ⟨_, dC⟩
        · obtain ⟨m', hn', _⟩ := foC.ns; rw [hcC] at hn'; exact Ns.ex hn'
      have stD : StepX [I, D, b] ρ2 s4 ρd sD := stC.trans (gD.st.toX _) hexC
      have itD := (itB.step hrB gC.st).step gC.hr gD.st
      have rvD := (rvB.step hrB gC.st).step gC.hr gD.st
      refine wpAny_list_append_plain (items := cacc.toArray) ⟨m, dD⟩ (fun h' hp hs' => ?_) (by have := list_len inv.rv inv.len; simpa using this)
      obtain ⟨m2, hp⟩ := hp
      have hkE : ∀ z o, z ≠ D → sD.heap.get? z = some o → h'.get? z = some o := fun z o hz e => (hs'.2 z hz).trans e
      have hDnt' : ∀ ws, sD.heap.get? D ≠ some (tupObj ws) := by intro ws e; rw [dD] at e; exact list_ne_tup e
      have hexD : ∀ z ∈ [I, D, b], ∃ o, sD.heap.get? z = some o := by
        intro z hz
        simp only [List.mem_cons, List.not_mem_nil, or_false] at hz
        rcases hz with rfl | rfl | rfl
        · obtain ⟨o, e, _⟩ := itD.st.obj; exact ⟨o, e⟩
        · exact ⟨_, dD⟩
        · obtain ⟨m', hn', _⟩ := foD.ns; rw [hcC] at hn'; exact Ns.ex hn'
      refine ⟨src.vs.length - (i + 1), by omega, i + 1, ρd, _, acc ++ [w], ℓ1, cacc ++ [cw], m2, rfl, ⟨hrun, gD.hr.but offD hD0 hDnt' hkE, stD.trans ((StepX.one hkE).weaken (by simp)) hexD, itD.but hDnt' hID hkE, hkb, ?_, ?_, ?_, offD, ?_, hi⟩⟩
      · rw [hp]; simp
      · exact (rvD.but hDnt' hkE).append (.cons (rw'.but hDnt' hkE) .nil)
      · simp; omega
      · exact foD.but (by rw [hcC]; exact hDC) (fun y z hy => (hcells y z hy).2) hDnt' hkE
  · -- the end
    have hii : i = src.vs.length := by have := inv.le; omega
    subst hii
    have hrun := inv.run
    rw [List.drop_length] at hrun
    obtain ⟨rfl, rfl⟩ := compL_nil hrun
    refine it_done hh inv.it inv.hr inv.keep rfl fun h1 tk1 hk1 hr1 => ?_
    have hInt := inv.it.not_tup
    have hex : ∀ b ∈ [I, D, C], ∃ o, s.heap.get? b = some o := by
      intro b hb
      simp only [List.mem_cons, List.not_mem_nil, or_false] at hb
      rcases hb with rfl | rfl | rfl
      · obtain ⟨o, e, _⟩ := inv.it.st.obj; exact ⟨o, e⟩
      · exact ⟨_, inv.d⟩
      · obtain ⟨m', hn', _⟩ := inv.fo.ns; rw [hcC] at hn'; exact Ns.ex hn'
    refine ⟨rfl, hend { s with heap := h1, toks := tk1 } ρ' cacc m hr1 (inv.st.trans ((StepX.one hk1).weaken (by simp)) hex) (hk1 _ _ (fun e => hID e.symm) inv.d) (inv.rv.but hInt hk1) inv.len inv.off ?_⟩
    obtain ⟨m', hn', _⟩ := (inv.fo.but (by rw [hcC]; exact hIC) (fun y b hy => (hcells y b hy).1) hInt hk1).ns
    rw [hcC] at hn'
    exact ⟨m', hn'⟩
end
end Mini

/-! Comprehensions, as a whole. -/
set_option autoImplicit false
namespace Mini
open PySem PyProof.Rows PySem.SeqAt

section
variable {K : Kx} {A : Around} {env : Env} {c : CEnv} {cl : Cl} {T : Tabs}

/-- what stands when the block is through -/
structure CEnd (K : Kx) (ρ : List Addr) (s : Shared) (σ2 : H) (vs : List V) (D C : Addr) (ρ' : List Addr) (s' : Shared) (cacc : List Value) (m : Nat) : Prop where
  hr : HR K ρ' σ2 s'.heap
  st : Step ρ s ρ' s'
  d : s'.heap.get? D = some (listObj cacc m)
  rv : RVs K ρ' s'.heap vs cacc
  len : vs.length ≤ lenMax
  off : D ∉ ρ'
  offC : C ∉ ρ'
  newD : s.heap.get? D = none
  newC : s.heap.get? C = none
  ne : D ≠ C
  d0 : K.h0.get? D = none
  c0 : K.h0.get? C = none
  ns : ∃ m', s'.heap.Ns C m'

theorem comp_main {elt iter : Expr} {x : Str} {px pos pos' : Pos} {ifs : List Expr} {sc : Scope} {a : Ex} {it : It} {fs : Es} {tg : Nat} (hh : A.handled = none) (ok : CompOK c sc) (hs : ∀ v, foldedSetIterable iter env v = pure v)
    (hx : cVar (compC c sc) x = some tg) (hxl : (compC c sc).names.lookup x = some .local) (hI : PI K A env c cl iter it) (he : ∀ cenv, PE K A cenv (compC c sc) cl elt a) (hf : ∀ cenv, PF K A cenv (compC c sc) cl ifs fs)
    {ℓ : L} {σ σ1 σ2 : H} {src : Src} {vs : List V} (h1 : evalIt cl it ℓ σ = some (.ok src, σ1))
    (h2 : compL (fun ℓ' σ' => bnd (evalIfs cl fs ℓ' σ') fun b σ2 => if b then bnd (evalE cl a ℓ' σ2) fun v σ3 => some (.ok (some v), σ3) else some (.ok .none, σ2)) tg src.keep src.vs [] ℓ σ1 = some (.ok vs, σ2))
    {ρ : List Addr} {s : Shared} (hr : HR K ρ σ s.heap) (fo : FO K env c ℓ ρ s.heap) {use : Option (Value → Sem Unit)} {Q : Value → Shared → Prop} {E : Value → Shared → Prop}
    (hend : ∀ s' D C ρ' cacc m, CEnd K ρ s σ2 vs D C ρ' s' cacc m → compPost K.M A E use Q (.ref D) C (.ok .next) s') :
    wpAny K.M A (comprehension (.ListComp elt [⟨.Name x px, iter, ifs, 0⟩] sc pos) sc env pos' (newList []) false (eval iter env) use) Q E s := by
  have hclos : closureFor sc env = pure (closOf env sc.names []) := closureFor_eq env sc fun n hn => by
    obtain ⟨b, _, e, _⟩ := fo.cell n (ok.frees n hn); rw [e]; rfl
  refine wpAny_comprehension_free (g := ⟨.Name x px, iter, ifs, 0⟩) (gs := []) rfl hs hclos ok.kind (fun y hy hl => nodup_lookup ok.nd (by rw [← hl]; exact hy)) ?_
  refine wpAny_mono (hI ℓ σ src σ1 h1 ρ s hr fo) (fun xv s1 hq => wpAny_mono hq (fun itv s2 hq => ?_) fun _ _ f => f.elim) fun _ _ f => f.elim
  obtain ⟨ρ2, I, k, rfl, g2, itok, hkeep, hInone⟩ := hq
  obtain ⟨oI, eI, _⟩ := itok.st.obj
  -- the list that is filled
  refine wpAny_newList ?_
  have fr2 := fresh_off g2.hr
  refine wpAny_newFunctionEnv ok.nocell (by intro y hy; cases hy) (fun h4 hns4 hsb4 => ?_) ok.kind
  have hpD' : ({ s2 with heap := s2.heap.push { cls := .type "list", data := .seq ([] : List Value).toArray } } : Shared).heap.objs.size = s2.heap.objs.size + 1 := Heap.size_push ..
  rw [hpD'] at hns4 hsb4 ⊢
  obtain ⟨D, hD⟩ : ∃ D : Nat, s2.heap.objs.size = D := ⟨_, rfl⟩
  obtain ⟨C, hC⟩ : ∃ C : Nat, s2.heap.objs.size + 1 = C := ⟨_, rfl⟩
  rw [hC] at hns4 hsb4 ⊢
  rw [hD] at fr2 ⊢
  have hDC : D ≠ C := by omega
  have hlt : ∀ {b : Addr} {o : Obj}, s2.heap.get? b = some o → @LT.lt Nat _ b D ∧ @LT.lt Nat _ b C := fun {b o} e => by
    have h9 : @LT.lt Nat _ b s2.heap.objs.size := Heap.lt_size e
    omega
  have hID : I ≠ D := Nat.ne_of_lt (hlt eI).1
  have hIC : I ≠ C := Nat.ne_of_lt (hlt eI).2
  have old : ∀ b o, s2.heap.get? b = some o → h4.get? b = some o := by
    intro b o e
    exact (hsb4.2 b (Nat.ne_of_lt (hlt e).2)).trans (Heap.get?_push_of_some _ (Heap.get?_push_of_some _ e))
  have dD : h4.get? D = some (listObj [] 0) := by
    refine (hsb4.2 D hDC).trans (Heap.get?_push_of_some _ ?_)
    have := Heap.get?_push_size s2.heap (o := listObj [] 0) rfl
    rw [hD] at this; exact this
  have hnoneD : s2.heap.get? D = none := by rw [← hD]; exact get?_size _
  have hnoneC : s2.heap.get? C = none := by
    cases e : s2.heap.get? C with
    | none => rfl
    | some o => exact absurd (hlt e).2 (Nat.lt_irrefl _)
  have hC0 : K.h0.get? C = none := by
    cases e : K.h0.get? C with
    | none => rfl
    | some o => rw [g2.hr.keep _ _ e] at hnoneC; cases hnoneC
  have hCρ : C ∉ ρ2 := fun hm => by obtain ⟨ob, e, _⟩ := g2.hr.at_ hm; rw [hnoneC] at e; cases e
  have g4 : Good K ρ2 s2 ρ2 σ1 { s2 with heap := h4, toks := s2.toks + ([] : List (Str × Value)).length } := Good.grow g2.hr old _
  have fo2 := fo.step hr g2.st
  have fo4 := fo2.step g2.hr g4.st
  have hcn : ∀ y b, (y, b) ∈ env.cells → b ≠ I ∧ b ≠ D ∧ b ≠ C := by
    intro y b hy
    obtain ⟨_, _, _, o, e, _⟩ := fo.cnew y b hy
    have hb2 := g2.st.fr b o e (fo.cnew y b hy).1
    refine ⟨?_, ?_, ?_⟩
    · rintro rfl; rw [hInone] at e; cases e
    · rintro rfl; rw [hnoneD] at hb2; cases hb2
    · rintro rfl; rw [hnoneC] at hb2; cases hb2
  have hnsC : h4.Ns C fun _ => none := hns4
  have foC : FO K (compEnvC sc (closOf env sc.names []) C env) (compC c sc) ℓ ρ2 h4 := comp_FO fo4 ok hnsC hCρ hC0 fun y b hy => (hcn y b hy).2.2
  have hcc : ∀ y b, (y, b) ∈ closOf env sc.names [] → b ≠ I ∧ b ≠ D := by
    intro y b hy
    rcases closOf_mem hy with h | ⟨hf', hb⟩
    · cases h
    · obtain ⟨b', _, e, _⟩ := fo.cell y (ok.frees y hf')
      rw [e] at hb; simp at hb; subst hb
      have := hcn y b (mem_of_lookup e)
      exact ⟨this.1, this.2.1⟩
  have loop : codeAny K.M A (.compLoop (.ListComp elt [⟨.Name x px, iter, ifs, 0⟩] sc pos) 0 (.ref I) (.ref D) (compEnvC sc (closOf env sc.names []) C env)) (compPost K.M A E use Q (.ref D) C)
      { s2 with heap := h4, toks := s2.toks + ([] : List (Str × Value)).length } := by
    refine codeAny_mono (comp_loop (E' := fun e s' => compPost K.M A E use Q (.ref D) C (.error e) s') (RR := fun s' => compPost K.M A E use Q (.ref D) C (.ok .next) s') (ρ2 := ρ2) (s4 := { s2 with heap := h4, toks := s2.toks + ([] : List (Str × Value)).length }) (C := C) (σ2 := σ2) (vs := vs)
      hh hx hxl rfl hID hIC hDC hcc fr2.2 ?_ (he _) (hf _) (fun s' ρ' cacc m e1 e2 e3 e4 e5 e6 e7 => ?_) 0 _ ρ2 σ1 [] ℓ [] 0
      ⟨h2, g4.hr, StepX.refl _ _ _, itok.step g2.hr g4.st, hkeep, dD, .nil, Nat.zero_le _, fr2.1, foC, Nat.zero_le _⟩) fun r s' hq => ?_
    · intro b hb
      simp only [List.mem_cons, List.not_mem_nil, or_false] at hb
      rcases hb with rfl | rfl | rfl
      · exact ⟨oI, old _ _ eI⟩
      · exact ⟨_, dD⟩
      · exact Ns.ex hnsC
    · refine hend s' D C ρ' cacc m ⟨e1, ?_, e3, e4, e5, e6, fun hm => ?_, g2.back hnoneD, g2.back hnoneC, hDC, fr2.2, hC0, e7⟩
      · have hid : ∀ z ∈ [I, D, C], s.heap.get? z = none := by
          intro z hz
          simp only [List.mem_cons, List.not_mem_nil, or_false] at hz
          rcases hz with rfl | rfl | rfl
          · exact hInone
          · exact g2.back hnoneD
          · exact g2.back hnoneC
        have t1 := g2.st.trans g4.st
        refine ⟨t1.pre.trans e2.pre, fun z o e hz => ?_, fun z hz => ?_, e2.gens.trans t1.gens, e2.os.trans t1.os⟩
        · have hz4 := t1.fr z o e hz
          refine e2.fr z o hz4 (fun h => ?_) fun h => ?_
          · rcases t1.fresh z h with h | h
            · exact hz h
            · rw [e] at h; cases h
          · rw [hid z h] at e; cases e
        · rcases e2.fresh z hz with h | h
          · exact t1.fresh z h
          · by_cases hr' : z ∈ ρ
            · exact .inl hr'
            · right
              cases hg : s.heap.get? z with
              | none => rfl
              | some o => rw [t1.fr z o hg hr'] at h; cases h
      · rcases e2.fresh C hm with h | h
        · exact hCρ h
        · obtain ⟨o, e⟩ := Ns.ex hnsC; rw [e] at h; cases h
    · cases r with
      | ok f => obtain ⟨rfl, hq⟩ := hq; exact hq
      | error e => exact hq
  show codeAny K.M A (.compStart (.ListComp elt [⟨.Name x px, iter, ifs, 0⟩] sc pos) 0 (.ref I) (.ref D) (compEnvC sc (closOf env sc.names []) C env)) (compPost K.M A E use Q (.ref D) C) { s2 with heap := h4, toks := s2.toks + ([] : List (Str × Value)).length }
  exact codeAny_compStart_list loop (it_self hh (itok.step g2.hr g4.st) loop)

/-- the list gets its number -/
theorem CEnd.done {ρ : List Addr} {s : Shared} {σ2 : H} {vs : List V} {D C : Addr} {ρ' : List Addr} {s' : Shared} {cacc : List Value} {m : Nat} (x : CEnd K ρ s σ2 vs D C ρ' s' cacc m) {h' : Heap} (hs : Heap.SameBut C s'.heap h') :
    ∃ ρ'', Good K ρ s ρ'' (σ2 ++ [.list vs]) { s' with heap := h' } ∧ RV K ρ'' h' (.obj σ2.length) (.ref D) ∧ C ∉ ρ'' := by
  obtain ⟨m', hn⟩ := x.ns
  have hbut : ∀ b o, b ≠ C → s'.heap.get? b = some o → h'.get? b = some o := fun b o hb e => (hs.2 b hb).trans e
  have hr1 : HR K ρ' σ2 h' := x.hr.but x.offC x.c0 (Ns.not_tup hn) hbut
  have hd : h'.get? D = some (listObj cacc m) := hbut _ _ x.ne x.d
  refine ⟨ρ' ++ [D], ⟨⟨hr1.keep, by simp [hr1.len], ?_, fun b hb => ?_, fun n o b g1 g2 => ?_⟩, ⟨x.st.pre.trans (List.prefix_append _ _), fun b o e hb => ?_, fun b hb => ?_, x.st.gens, x.st.os⟩⟩, .obj ?_, fun hm => ?_⟩
  · rw [List.nodup_append]; exact ⟨hr1.nd, by simp, fun b hb z hz e => by simp at hz; exact x.off (hz ▸ e ▸ hb)⟩
  · rcases List.mem_append.mp hb with h | h
    · exact hr1.new b h
    · rw [List.mem_singleton.mp h]; exact x.d0
  · by_cases hlt : n < σ2.length
    · rw [List.getElem?_append_left hlt] at g1
      rw [List.getElem?_append_left (by rw [hr1.len]; exact hlt)] at g2
      exact (hr1.obj n o b g1 g2).mono (List.prefix_append _ _) fun _ _ e => e
    · have hn' : n = σ2.length := by have := (List.getElem?_eq_some_iff.mp g1).1; simp at this; omega
      subst hn'
      rw [List.getElem?_append_right (Nat.le_refl _)] at g1
      rw [List.getElem?_append_right (by rw [hr1.len]; exact Nat.le_refl _)] at g2
      simp [hr1.len] at g1 g2
      rw [← g1, ← g2]
      exact ⟨cacc, m, hd, (x.rv.but (Ns.not_tup hn) hbut).mono (List.prefix_append _ _) (fun _ _ e => e), x.len⟩
  · have := x.st.fr b o e hb
    exact hbut b o (by rintro rfl; rw [x.newC] at e; cases e) this
  · rcases List.mem_append.mp hb with h | h
    · exact x.st.fresh b h
    · rw [List.mem_singleton.mp h]; exact .inr x.newD
  · rw [List.getElem?_append_right (by rw [hr1.len]; exact Nat.le_refl _), hr1.len]; simp
  · rcases List.mem_append.mp hm with h | h
    · exact x.offC h
    · exact x.ne (List.mem_singleton.mp h).symm

theorem pe_comp {elt iter : Expr} {x : Str} {px pos : Pos} {ifs : List Expr} {sc : Scope} {a : Ex} {it : It} {fs : Es} {tg : Nat} (hh : A.handled = none) (ok : CompOK c sc) (hs : ∀ v, foldedSetIterable iter env v = pure v)
    (hx : cVar (compC c sc) x = some tg) (hxl : (compC c sc).names.lookup x = some .local) (hI : PI K A env c cl iter it) (he : ∀ cenv, PE K A cenv (compC c sc) cl elt a) (hf : ∀ cenv, PF K A cenv (compC c sc) cl ifs fs) :
    PE K A env c cl (.ListComp elt [⟨.Name x px, iter, ifs, 0⟩] sc pos) (.comp a tg it fs) := by
  intro ℓ σ v σ' hev ρ s hr fo
  simp only [evalE] at hev
  obtain ⟨src, σ1, h1, hev⟩ := bnd_ok_inv hev
  obtain ⟨vs, σ2, h2, hev⟩ := bnd_ok_inv hev
  cases hev
  rw [eval_ListComp]
  refine comp_main hh ok hs hx hxl hI he hf h1 h2 hr fo fun s' D C ρ' cacc m e => ?_
  refine ⟨_, e.ns.choose_spec, fun h' hs' => ?_⟩
  obtain ⟨ρ'', g, r, _⟩ := e.done hs'
  exact ⟨ρ'', g, r⟩
end
end Mini

/-! Calls of names and of methods of lists. -/
set_option autoImplicit false
namespace Mini
open PySem PyProof.Rows PySem.SeqAt

/-- calls of the text's own defs are answered as the evaluator says -/
noncomputable def CallOK (K : Kx) (A : Around) (cl : Cl) : Prop :=
  ∀ f vs σ v σ', cl.call f vs σ = some (.ok v, σ') → ∀ ρ s cvs, HR K ρ σ s.heap → RVs K ρ s.heap vs cvs → TR K A (call (.ref (K.fna f)) cvs) ρ s σ' fun ρ' cv s' => RV K ρ' s'.heap v cv

section
variable {K : Kx} {A : Around} {env : Env} {c : CEnv} {cl : Cl} {T : Tabs}

theorem star_plain {e : Expr} {a : Ex} (h : cE T c e = some a) (es : List Expr) : starEach (e :: es) env = (false, eval e env) :: starEach es env := by
  cases e <;> first | rfl | (simp [cE] at h)
theorem star_all : ∀ {es : List Expr} {as : Es}, cEs T c es = some as → starEach es env = es.map fun e => (false, eval e env)
  | [], _, _ => rfl
  | e :: es, as, h => by
    simp only [cEs] at h
    split at h
    · rename_i a b h1 h2
      rw [star_plain h1, star_all h2]; rfl
    · cases h
theorem back_all {es : List Expr} {as : Es} (h : cEs T c es = some as) (pos : Pos) : backTo pos (starEach es env) = es.map fun e => (false, eval e env) := by
  rw [star_all h, backTo, List.map_map]; rfl

theorem evalArgs_list {f : Value} {xs : List Expr} {Q : Args → Shared → Prop} {E : Value → Shared → Prop} {s : Shared} (h : wpAny K.M A (spliced (xs.map fun e => (false, eval e env))) (fun vs s' => Q ⟨vs, []⟩ s') E s) :
    wpAny K.M A (evalArgs f true (xs.map fun e => (false, eval e env)) []) Q E s := by
  cases xs with
  | nil =>
    unfold evalArgs
    show wpAny K.M A (spliced [] >>= _) Q E s
    refine wpAny_bind (wpAny_mono h (fun vs s' h' => ?_) fun _ _ x => x)
    refine wpAny_holding ?_
    exact wpAny_bind (wpAny_pure (wpAny_bind (wpAny_pure (wpAny_pure h'))))
  | cons x r => exact Calls.evalArgs_plain h

theorem any_plain (xs : List Expr) : (xs.map fun e => ((false, eval e env) : Bool × Sem Value)).any (·.1) = false := by
  induction xs with
  | nil => rfl
  | cons x r ih => simp

/-- a call of what is no object -/
theorem callWith_machine {pos : Pos} {f : Value} (hf : keeperOf f = pure .machine) {first : List Value} {xs : List Expr} {Q : Value → Shared → Prop} {E : Value → Shared → Prop} {s : Shared}
    (h : wpAny K.M A (spliced (xs.map fun e => (false, eval e env))) (fun vs s₁ => wpAny K.M A (call f (first ++ vs) []) Q E s₁) E s) : wpAny K.M A (callWith pos f first (xs.map fun e => (false, eval e env)) []) Q E s := by
  unfold callWith
  refine wpAny_bind (wpAny_holding (evalArgs_list (wpAny_mono h (fun a s₁ h₁ => wpAny_bind (wpAny_standAt ?_)) fun _ _ x => x)))
  simp only [any_plain, List.any_nil, Bool.or_false, hf, pure_bind]
  exact wpAny_bind (wpAny_mono h₁ (fun r s₂ hr => wpAny_bind (wpAny_holding (wpAny_point (wpAny_pure hr)))) fun _ _ x => x)

theorem pe_blt (G : GK K T) (ty : TyOK K) (hh : A.handled = none) {f : Str} {p pos : Pos} {es : List Expr} {as : Es} {b : Blt} (hsort : b = .sorted → ∀ (σ σ' : H) (vs : List V) (v : V), bltV b vs σ = some (v, σ') → ∀ (ρ : List Addr) (s : Shared) (cas : List Value), HR K ρ σ s.heap → RVs K ρ s.heap vs cas →
      TR K A (call (bltVal b) cas) ρ s σ' fun ρ' cv s' => RV K ρ' s'.heap v cv)
    (hg : isGlob c f = true) (hb : T.blts.lookup f = some b) (hc : cEs T c es = some as) (h : PEs K A env c cl es as) : PE K A env c cl (.Call (.Name f p) es [] pos) (.blt b as) := by
  intro ℓ σ v σ' he ρ s hr fo
  simp only [evalE] at he
  obtain ⟨vs, σ1, h1, he⟩ := bnd_ok_inv he
  have he := okH_inv he
  obtain ⟨mg, mb, hmg, hmb, _, _, hblt, _⟩ := G.g
  simp only [isGlob, Bool.and_eq_true, beq_iff_eq, Bool.not_eq_true'] at hg
  show TR K A (eval (.Name f p) env >>= fun fv => callWith pos fv [] (backTo pos (starEach es env)) []) ρ s σ' _
  refine wpAny_bind (glob_load hr fo hg.1 hg.2 hmg hmb (.inr (hblt f b hb)) ?_)
  rw [back_all hc]
  refine callWith_machine (by cases b <;> rfl) ?_
  have hp := h pos ℓ σ vs σ1 h1 ρ s hr fo
  rw [back_all hc] at hp
  refine wpAny_mono hp (fun cvs s1 hq => ?_) fun _ _ f => f
  obtain ⟨ρ1, g1, rvs⟩ := hq
  rw [List.nil_append]
  by_cases hbs : b = .sorted
  · exact TR.after g1 (hsort hbs σ1 σ' vs v he ρ1 s1 cvs g1.hr rvs)
  · exact TR.after g1 (blt_sound he hbs g1.hr rvs hh ty)

theorem pe_call (G : GK K T) (hcall : CallOK K A cl) {f : Str} {p pos : Pos} {es : List Expr} {as : Es} {n : Nat} (hg : isGlob c f = true) (hn : T.fns.lookup f = some n) (hc : cEs T c es = some as) (h : PEs K A env c cl es as) :
    PE K A env c cl (.Call (.Name f p) es [] pos) (.call n as) := by
  intro ℓ σ v σ' he ρ s hr fo
  simp only [evalE] at he
  obtain ⟨vs, σ1, h1, he⟩ := bnd_ok_inv he
  obtain ⟨mg, mb, hmg, hmb, _, hfn, _⟩ := G.g
  obtain ⟨hm, o, fd, ho, hd⟩ := hfn f n hn
  simp only [isGlob, Bool.and_eq_true, beq_iff_eq, Bool.not_eq_true'] at hg
  show TR K A (eval (.Name f p) env >>= fun fv => callWith pos fv [] (backTo pos (starEach es env)) []) ρ s σ' _
  refine wpAny_bind (glob_load hr fo hg.1 hg.2 hmg hmb (.inl hm) ?_)
  rw [back_all hc]
  have hp := h pos ℓ σ vs σ1 h1 ρ s hr fo
  rw [back_all hc] at hp
  refine Calls.callWith_function (o := o) (fd := fd) (evalArgs_list (wpAny_mono hp (fun cvs s1 hq => ?_) fun _ _ f => f))
  obtain ⟨ρ1, g1, rvs⟩ := hq
  refine ⟨⟨g1.hr.keep _ _ ho, hd⟩, ?_⟩
  exact TR.after g1 (hcall n vs σ1 v σ' he ρ1 s1 cvs g1.hr rvs)

/-- ranges -/
theorem rng_it {ρ : List Addr} {σ : H} {s : Shared} (hr : HR K ρ σ s.heap) {a b : Int} {t u v : Tok} {r : Addr} (hR : IsRange s.heap r a b 1 t u v) (ha : -lenMax ≤ a ∧ a ≤ lenMax) (hb : -lenMax ≤ b ∧ b ≤ lenMax) {Q : Value → Shared → Prop} {E : Value → Shared → Prop}
    (hq : ∀ h', Good K ρ s ρ σ { s with heap := h' } → ItOK K ρ s.heap.objs.size 0 h' ⟨rngL a b, fun _ => True⟩ (.rng a (b - a).toNat) → Q (.ref s.heap.objs.size) { s with heap := h' }) : wpAny K.M A (pyIter (.ref r)) Q E s := by
  obtain ⟨f1, f2⟩ := fresh_off hr
  unfold lenMax at ha hb
  refine wpAny_pyIter_range hR ?_ (hq _ (Good.tmp hr _ _) ⟨?_, ⟨rfl, rfl⟩, f1, f2⟩)
  · have fit : ∀ z : Int, -2000000 ≤ z → z ≤ 2000000 → Builtin.Range.rangeFitsLong z = true := by
      intro z h1 h2; unfold Builtin.Range.rangeFitsLong; simp; omega
    unfold Builtin.Range.small Builtin.Range.rangeSize
    simp only [Bool.and_eq_true, Bool.or_eq_true]
    have hz : Builtin.Range.rangeFitsLong (if (1 : Int) > 0 then (if a < b then (b - a - 1) / 1 + 1 else 0) else (if a > b then (a - b - 1) / (-1) + 1 else 0)) = true := by
      rw [if_pos (by decide)]; split <;> exact fit _ (by omega) (by omega)
    refine ⟨⟨⟨⟨fit a (by omega) (by omega), fit b (by omega) (by omega)⟩, fit 1 (by omega) (by omega)⟩, hz⟩, ?_⟩
    right
    simp
    exact fit b (by omega) (by omega)
  · show IsRangeIter _ _ _ _ _
    have e : Builtin.Range.rangeSize a b 1 = (((b - a).toNat : Nat) : Int) := by
      unfold Builtin.Range.rangeSize; simp; omega
    have := Heap.get?_push_size s.heap (o := { cls := .type "range_iterator", data := .fields #[rawInt a, rawInt (Builtin.Range.rangeSize a b 1), rawInt 1] }) rfl
    rw [e] at this ⊢
    simpa [IsRangeIter] using this

theorem pi_rng1 (G : GK K T) {f : Str} {p pos : Pos} {es : List Expr} {a : Ex} (hg : isGlob c f = true) (hf : (f == sRange) = true) (hc : cEs T c es = some (.cons a .nil)) (h : PEs K A env c cl es (.cons a .nil)) : PI K A env c cl (.Call (.Name f p) es [] pos) (.rng1 a) := by
  intro ℓ σ src σ' he ρ s hr fo
  simp only [evalIt] at he
  obtain ⟨x, σ1, h1, he⟩ := bnd_ok_inv he
  obtain ⟨mg, mb, hmg, hmb, _, _, _, hr1, hr2⟩ := G.g
  obtain rfl := beq_iff_eq.mp hf
  simp only [isGlob, Bool.and_eq_true, beq_iff_eq, Bool.not_eq_true'] at hg
  show wpAny K.M A (eval (.Name sRange p) env >>= fun fv => callWith pos fv [] (backTo pos (starEach es env)) []) _ _ s
  refine wpAny_bind (glob_load hr fo hg.1 hg.2 hmg hmb (.inr ⟨hr1, hr2⟩) ?_)
  rw [back_all hc]
  refine callWith_machine rfl ?_
  have hp := h pos ℓ σ [x] σ1 (by simp [evalEs, h1]) ρ s hr fo
  rw [back_all hc] at hp
  refine wpAny_mono hp (fun cvs s1 hq => ?_) fun _ _ f => f
  obtain ⟨ρ1, g1, rvs⟩ := hq
  cases x with
  | int b =>
    simp only at he
    split at he
    · rename_i hb
      cases he
      cases rvs with
      | cons r0 rn =>
        cases rn; cases r0
        rename_i t
        refine call_range_1 ?_
        have g2 := Good.tmp g1.hr { cls := .type "range", data := .fields #[.int 0 s1.toks, .int b t, .int 1 (s1.toks + 1)] } (s1.toks + 1 + 1)
        refine rng_it g2.hr (Heap.get?_push_size _ rfl) (by unfold lenMax; omega) hb fun h' g ok => ⟨ρ1, _, _, rfl, (g1.trans g2).trans g, ok, trivial, (g1.trans g2).back (get?_size _)⟩
    · cases he
  | _ => cases he

theorem pi_rng2 (G : GK K T) {f : Str} {p pos : Pos} {es : List Expr} {a a' : Ex} (hg : isGlob c f = true) (hf : (f == sRange) = true) (hc : cEs T c es = some (.cons a (.cons a' .nil))) (h : PEs K A env c cl es (.cons a (.cons a' .nil))) :
    PI K A env c cl (.Call (.Name f p) es [] pos) (.rng2 a a') := by
  intro ℓ σ src σ' he ρ s hr fo
  simp only [evalIt] at he
  obtain ⟨x, σ1, h1, he⟩ := bnd_ok_inv he
  obtain ⟨y, σ2, h2, he⟩ := bnd_ok_inv he
  obtain ⟨mg, mb, hmg, hmb, _, _, _, hr1, hr2⟩ := G.g
  obtain rfl := beq_iff_eq.mp hf
  simp only [isGlob, Bool.and_eq_true, beq_iff_eq, Bool.not_eq_true'] at hg
  show wpAny K.M A (eval (.Name sRange p) env >>= fun fv => callWith pos fv [] (backTo pos (starEach es env)) []) _ _ s
  refine wpAny_bind (glob_load hr fo hg.1 hg.2 hmg hmb (.inr ⟨hr1, hr2⟩) ?_)
  rw [back_all hc]
  refine callWith_machine rfl ?_
  have hp := h pos ℓ σ [x, y] σ2 (by simp [evalEs, h1, h2]) ρ s hr fo
  rw [back_all hc] at hp
  refine wpAny_mono hp (fun cvs s1 hq => ?_) fun _ _ f => f
  obtain ⟨ρ1, g1, rvs⟩ := hq
  cases x with
  | int a0 =>
    cases y with
    | int b0 =>
      simp only at he
      split at he
      · rename_i hb
        cases he
        cases rvs with
        | cons r0 rn => cases rn with
          | cons r1 rn =>
            cases rn; cases r0; cases r1
            rename_i t u
            refine call_range_2 ?_
            have g2 := Good.tmp g1.hr { cls := .type "range", data := .fields #[.int a0 t, .int b0 u, .int 1 s1.toks] } (s1.toks + 1)
            refine rng_it g2.hr (Heap.get?_push_size _ rfl) hb.1 hb.2 fun h' g ok => ⟨ρ1, _, _, rfl, (g1.trans g2).trans g, ok, trivial, (g1.trans g2).back (get?_size _)⟩
      · cases he
    | _ => cases he
  | _ => cases he

/-- a list changes -/
theorem HR.setList {ρ : List Addr} {σ : H} {h h' : Heap} (x : HR K ρ σ h) {n : Nat} {a : Addr} {l' : List V} {vs' : List Value} {m' : Nat} {o0 : O} (hn : σ[n]? = some o0) (ha : ρ[n]? = some a) (hd : h'.get? a = some (listObj vs' m')) (hk : ∀ b o, b ≠ a → h.get? b = some o → h'.get? b = some o)
    (r : RVs K ρ h l' vs') (hl : l'.length ≤ lenMax) : HR K ρ (σ.set n (.list l')) h' := by
  have hnt : ∀ ws, h.get? a ≠ some (tupObj ws) := by
    intro ws e
    obtain ⟨ob, e', hc⟩ := x.at_ (List.mem_of_getElem? ha)
    rw [e] at e'; cases e'; exact hc rfl
  have a0 := x.new a (List.mem_of_getElem? ha)
  refine ⟨fun b o e => hk b o (by rintro rfl; rw [a0] at e; cases e) (x.keep b o e), by simp [x.len], x.nd, x.new, fun k o b h1 h2 => ?_⟩
  by_cases hkn : k = n
  · subst hkn
    rw [ha] at h2; cases h2
    have hlt := (List.getElem?_eq_some_iff.mp hn).1
    rw [List.getElem?_set_self hlt] at h1; cases h1
    exact ⟨vs', m', hd, r.but hnt hk, hl⟩
  · rw [List.getElem?_set_ne (fun e => hkn e.symm)] at h1
    have hba : b ≠ a := by
      rintro rfl
      exact hkn ((List.getElem?_inj (List.getElem?_eq_some_iff.mp h2).1 x.nd).mp (h2.trans ha.symm))
    have ho := x.obj k o b h1 h2
    cases o with
    | list l => obtain ⟨vs, m, e, r, hl⟩ := ho; exact ⟨vs, m, hk _ _ hba e, r.but hnt hk, hl⟩
    | _ => exact ho.elim

theorem Step.set {ρ : List Addr} {s : Shared} {a : Addr} {h' : Heap} {t : Nat} (ha : a ∈ ρ) (hk : ∀ b o, b ≠ a → s.heap.get? b = some o → h'.get? b = some o) : Step ρ s ρ { s with heap := h', toks := t } :=
  ⟨List.prefix_refl _, fun b o e hb => hk b o (by rintro rfl; exact hb ha) e, fun _ h => .inl h, rfl, rfl⟩
end
end Mini

/-! Methods of lists; the theorem for expressions. -/
set_option autoImplicit false
namespace Mini
open PySem PyProof.Rows PySem.SeqAt

section
variable {K : Kx} {A : Around} {env : Env} {c : CEnv} {cl : Cl} {T : Tabs}

theorem base_of {o : Expr} (h : isCall o = false) (name : Str) (w : Sem Value) : attributeBase o name env w = w := by
  cases o <;> first | rfl | (cases h)

theorem few_of {es : List Expr} {as : Es} (h : cEs T c es = some as) (hl : es.length < 20) (pos : Pos) :
    ((backTo pos (starEach es env)).all (fun x => !x.1) && (backToKw pos (keywordEach [] env)).all (fun x => x.1.isSome) && decide (es.length + ([] : List Keyword).length + (if ([] : List Keyword).isEmpty then 0 else 1) < 30)) = true := by
  rw [back_all h]
  simp [backToKw, keywordEach]
  omega

theorem listOf_obj {σ : H} {n : Nat} {l : List V} (h : listOf σ (.obj n) = some l) : σ[n]? = some (.list l) := by
  simp only [listOf] at h
  split at h
  · rename_i l' h'; cases h; exact h'
  · cases h
theorem append_inv {x v : V} {vs : List V} {σ σ' : H} (h : mthV .append x vs σ = some (v, σ')) : ∃ n x0 l, x = .obj n ∧ vs = [x0] ∧ σ[n]? = some (.list l) ∧ l.length < lenMax ∧ v = .none ∧ σ' = σ.set n (.list (l ++ [x0])) := by
  simp only [mthV] at h
  split at h
  · rename_i n x0 _
    split at h
    · rename_i l hl
      split at h
      · rename_i hlen; cases h; exact ⟨_, _, l, rfl, rfl, listOf_obj hl, hlen, rfl, rfl⟩
      · cases h
    · cases h
  · rename_i hh; cases hh
  · cases h
theorem pop_inv {x v : V} {vs : List V} {σ σ' : H} (h : mthV .pop x vs σ = some (v, σ')) : ∃ n l, x = .obj n ∧ vs = [] ∧ σ[n]? = some (.list l) ∧ l.getLast? = some v ∧ σ' = σ.set n (.list l.dropLast) := by
  simp only [mthV] at h
  split at h
  · rename_i hh; cases hh
  · split at h
    · rename_i l hl
      split at h
      · rename_i y hy; cases h; exact ⟨_, l, rfl, rfl, listOf_obj hl, hy, rfl⟩
      · cases h
    · cases h
  · cases h

theorem append_sound {x v : V} {vs : List V} {σ σ' : H} (h : mthV .append x vs σ = some (v, σ')) {ρ : List Addr} {s : Shared} {cx : Value} {cvs : List Value} (hr : HR K ρ σ s.heap) (rx : RV K ρ s.heap x cx) (rvs : RVs K ρ s.heap vs cvs) :
    TR K A (call (.builtin "list.append") (cx :: cvs)) ρ s σ' fun ρ' cv s' => RV K ρ' s'.heap v cv := by
  obtain ⟨n, x0, l, rfl, rfl, hn, hlen, rfl, rfl⟩ := append_inv h
  cases rx with
  | obj ha =>
    rename_i a
    cases rvs with
    | cons r0 rn =>
      cases rn
      obtain ⟨ws, m, e, r, _⟩ := hr.obj _ _ _ hn ha
      refine wpAny_list_append_plain (items := ws.toArray) ⟨m, e⟩ (fun h' hp hs' => ?_) (by have := list_len r (Nat.le_of_lt hlen); simpa using this)
      obtain ⟨m2, hp⟩ := hp
      have hk : ∀ b o, b ≠ a → s.heap.get? b = some o → h'.get? b = some o := fun b o hb e => (hs'.2 b hb).trans e
      refine ⟨ρ, ⟨hr.setList hn ha (vs' := ws ++ [_]) (m' := m2) ?_ hk (r.append (.cons r0 .nil)) (by simp; omega), Step.set (List.mem_of_getElem? ha) hk⟩, .none⟩
      rw [hp]; simp

theorem pop_sound {x v : V} {vs : List V} {σ σ' : H} (h : mthV .pop x vs σ = some (v, σ')) {ρ : List Addr} {s : Shared} {cx : Value} {cvs : List Value} (hr : HR K ρ σ s.heap) (rx : RV K ρ s.heap x cx) (rvs : RVs K ρ s.heap vs cvs) :
    TR K A (call (.builtin "list.pop") (cx :: cvs)) ρ s σ' fun ρ' cv s' => RV K ρ' s'.heap v cv := by
  obtain ⟨n, l, rfl, rfl, hn, hlast, rfl⟩ := pop_inv h
  cases rx with
  | obj ha =>
    rename_i a
    cases rvs
    obtain ⟨ws, m, e, r, hll⟩ := hr.obj _ _ _ hn ha
    have hlen := r.length
    have hne : l ≠ [] := by rintro rfl; cases hlast
    have hpos : 0 < l.length := List.length_pos_iff.mpr hne
    have hget : l[l.length - 1]? = some v := by rw [← List.getLast?_eq_getElem?]; exact hlast
    obtain ⟨cv, hc, rv⟩ := r.get hget
    refine call_meets F.slot_list_pop ⟨_, e, rfl⟩ F.entry_list_pop (F.args_list_pop_1 _) (MeetsSeq.list_pop_last a ws.toArray m cv (by simpa [← hlen] using hc) (by have := list_len r hll; simpa using this)) ⟨e, ?_⟩
    have hk : ∀ b o, b ≠ a → s.heap.get? b = some o → (s.heap.update a (Obj.mapSeq fun xs => xs.eraseIdxIfInBounds (ws.toArray.size - 1))).get? b = some o := fun b o hb e => by
      rw [Heap.get?_update_other _ _ (fun e' => hb e'.symm)]; exact e
    have hd : ∃ m2, (s.heap.update a (Obj.mapSeq fun xs => xs.eraseIdxIfInBounds (ws.toArray.size - 1))).get? a = some (listObj ws.dropLast m2) := by
      have hge : (Obj.mapSeq (fun xs => xs.eraseIdxIfInBounds (ws.toArray.size - 1)) (listObj ws m)) = listObj ws.dropLast (m + 1) := by
        have e1 : ws.toArray.eraseIdxIfInBounds (ws.toArray.size - 1) = ws.dropLast.toArray := by
          have hlt : ws.length - 1 < ws.length := by omega
          simp [Array.eraseIdxIfInBounds, hlt, List.eraseIdx_length_sub_one]
        have hsz : (ws.dropLast.toArray.size == ws.toArray.size) = false := by simp; omega
        show ({ cls := .type "list", data := .seq (ws.toArray.eraseIdxIfInBounds (ws.toArray.size - 1)) (if ((ws.toArray.eraseIdxIfInBounds (ws.toArray.size - 1)).size == ws.toArray.size) = true then m else m + 1) } : Obj) = _
        simp only [e1, hsz]; rfl
      refine ⟨m + 1, ?_⟩
      rw [Heap.get?_update_self _ e (by rw [hge]; rfl), hge]
    obtain ⟨m2, hd⟩ := hd
    have hnt : ∀ us, s.heap.get? a ≠ some (tupObj us) := by intro us e'; rw [e] at e'; exact list_ne_tup e'
    have rd : RVs K ρ s.heap l.dropLast ws.dropLast := by
      rw [List.dropLast_eq_take, List.dropLast_eq_take, hlen]; exact r.take _
    exact ⟨ρ, ⟨hr.setList hn ha hd hk rd (by simp; omega), Step.set (List.mem_of_getElem? ha) hk⟩, rv.but hnt hk⟩

noncomputable def mthName : Mth → Str
  | .append => sAppend
  | .pop => sPop
  | .index => sIndex

theorem pe_mth {mm : Mth} {o : Expr} {p pos : Pos} {es : List Expr} {a : Ex} {as : Es} (hline : (p.endLine == pos.line) = true) (hcall : isCall o = false) (hlen : es.length < 20)
    (hc : cEs T c es = some as) (ho : PE K A env c cl o a) (h : PEs K A env c cl es as) : PE K A env c cl (.Call (.Attribute o (mthName mm) p) es [] pos) (.mth mm a as) := by
  intro ℓ σ v σ' he ρ s hr fo
  simp only [evalE] at he
  obtain ⟨x, σ1, h1, he⟩ := bnd_ok_inv he
  obtain ⟨vs, σ2, h2, he⟩ := bnd_ok_inv he
  have he := okH_inv he
  refine wpAny_Call_method_lateS (base_of hcall _ _) (few_of hc hlen pos) hline (wpAny_mono (ho ℓ σ x σ1 h1 ρ s hr fo) (fun cx s1 hq => ?_) fun _ _ f => f)
  obtain ⟨ρ1, g1, rx⟩ := hq
  have hn : ∃ n, x = .obj n := by
    cases mm with
    | append => obtain ⟨n, _, _, rfl, _⟩ := append_inv he; exact ⟨n, rfl⟩
    | pop => obtain ⟨n, _, rfl, _⟩ := pop_inv he; exact ⟨n, rfl⟩
    | index => simp [mthV] at he
  obtain ⟨n, rfl⟩ := hn
  have hp := h pos ℓ σ1 vs σ2 h2 ρ1 s1 g1.hr (fo.step hr g1.st)
  cases rx with
  | obj ha =>
    rename_i ax
    have hobj : ∃ ob, s1.heap.get? ax = some ob ∧ ob.cls = .type "list" ∧ ob.dict = none := by
      have hlt : n < σ1.length := by rw [← g1.hr.len]; exact (List.getElem?_eq_some_iff.mp ha).1
      have hor := g1.hr.obj n σ1[n] ax (List.getElem?_eq_getElem hlt) ha
      cases ho1 : σ1[n] with
      | list l0 => rw [ho1] at hor; obtain ⟨ws, m, e, _⟩ := hor; exact ⟨_, e, rfl, rfl⟩
      | inst c d => rw [ho1] at hor; exact False.elim hor
      | ns l => rw [ho1] at hor; exact False.elim hor
      | exc c => rw [ho1] at hor; exact False.elim hor
    obtain ⟨ob, eob, hcls, hdict⟩ := hobj
    rw [back_all hc] at hp
    have fin : ∀ id : String, (∀ (s2 : Shared) (ρ2 : List Addr) (cvs : List Value), HR K ρ2 σ2 s2.heap → RV K ρ2 s2.heap (.obj n) (.ref ax) → RVs K ρ2 s2.heap vs cvs → TR K A (call (.builtin id) (.ref ax :: cvs)) ρ2 s2 σ' fun ρ' cv s' => RV K ρ' s'.heap v cv) →
        Slot "list" (mthName mm) id → typeOf (.builtin id) = pure (.type "method_descriptor") → MethodOnS K.prog K.w A (fun _ _ => False) (mthName mm) (.ref ax) pos (backTo pos (starEach es env)) (fun a s' => ∃ ρ', Good K ρ s ρ' σ' s' ∧ RV K ρ' s'.heap v a) s1 := by
      intro id hid hslot htype
      refine ⟨"list", id, F.plainAttrs_list, hslot, htype, ⟨ob, eob, hcls⟩, fun a' e => by cases e; exact ⟨ob, eob, hdict⟩, ?_⟩
      rw [back_all hc]
      refine callWith_machine rfl (wpAny_mono hp (fun cvs s2 hq => ?_) fun _ _ f => f)
      obtain ⟨ρ2, g2, rvs⟩ := hq
      exact TR.after (g1.trans g2) (hid s2 ρ2 cvs g2.hr (.obj (pre_get g2.st.pre ha)) rvs)
    cases mm with
    | append => exact fin "list.append" (fun s2 ρ2 cvs q1 q2 q3 => append_sound he q1 q2 q3) F.slot_list_append F.type_list_append
    | pop => exact fin "list.pop" (fun s2 ρ2 cvs q1 q2 q3 => pop_sound he q1 q2 q3) F.slot_list_pop F.type_list_pop
    | index => simp [mthV] at he
end
end Mini

/-! The theorem for expressions. -/
set_option autoImplicit false
namespace Mini
open PySem PyProof.Rows PySem.SeqAt

noncomputable def SortOK (K : Kx) (A : Around) : Prop :=
  ∀ (σ σ' : H) (vs : List V) (v : V), bltV .sorted vs σ = some (v, σ') → ∀ (ρ : List Addr) (s : Shared) (cas : List Value), HR K ρ σ s.heap → RVs K ρ s.heap vs cas → TR K A (call (bltVal .sorted) cas) ρ s σ' fun ρ' cv s' => RV K ρ' s'.heap v cv

structure Hy (K : Kx) (A : Around) (cl : Cl) (T : Tabs) : Prop where
  G : GK K T
  ty : TyOK K
  hh : A.handled = none
  hu : A.units + 16 < cLine
  call : CallOK K A cl
  sort : (∃ x, T.blts.lookup x = some .sorted) → SortOK K A
  plain : T.cls = [] ∧ T.meths = [] ∧ T.attrs = []

theorem folded_of {T : Tabs} {c : CEnv} {e : Expr} {a : Ex} (h : cE T c e = some a) (env : Env) (v : Value) : foldedSetIterable e env v = pure v := by
  cases e <;> first | rfl | (simp [cE] at h)
theorem folded_R {T : Tabs} {c : CEnv} {e : Expr} {it : It} (h : cR T c e = some it) (env : Env) (v : Value) : foldedSetIterable e env v = pure v := by
  cases e <;> first | rfl | (simp [cR] at h)
theorem folded_call (f : Expr) (as : List Expr) (ks : List Keyword) (p : Pos) (env : Env) (v : Value) : foldedSetIterable (.Call f as ks p) env v = pure v := rfl

theorem marks_of {T : Tabs} {c : CEnv} {e : Expr} {a : Ex} (h : cE T c e = some a) (op : CmpOp) : behindInMarks op e = false := by
  cases e <;> first | rfl | (simp [cE] at h)
theorem marked_of {T : Tabs} {c : CEnv} {env : Env} : ∀ {ops : List CmpOp} {es : List Expr} {r : Ch}, cCh T c ops es = some r → markedEach ops es (evalEach es env) = evalEach es env
  | [], es, r, h => by cases es <;> simp [cCh] at h
  | [op], [], r, h => by simp [cCh] at h
  | [op], [e], r, h => by
    simp only [cCh, Option.map_eq_some_iff] at h
    obtain ⟨a, ha, _⟩ := h
    show [markedBehindIn op e (eval e env)] = [eval e env]
    rw [markedBehindIn_of_false (marks_of ha op)]
  | [op], e :: e' :: es, r, h => by
    exfalso
    simp only [cCh] at h
    split at h
    · rename_i h1; simp [cCh] at h1
    · cases h
  | op :: op' :: ops, [], r, h => by simp [cCh] at h
  | op :: op' :: ops, [e], r, h => by
    exfalso
    simp only [cCh] at h
    split at h
    · rename_i h1; cases ops <;> simp [cCh] at h1
    · cases h
  | op :: op' :: ops, e :: e' :: es, r, h => by
    simp only [cCh] at h
    split at h
    · rename_i a b h1 h2
      have := marked_of (env := env) h2
      show eval e env :: markedEach (op' :: ops) (e' :: es) (evalEach (e' :: es) env) = _
      rw [this]; rfl
    · cases h

theorem cGen_two {T : Tabs} {sc : Scope} {c : CEnv} {g g' : Comprehension} {gs : List Comprehension} : cGen T sc c (g :: g' :: gs) = none := by
  obtain ⟨_, _, _, _⟩ := g; rfl
theorem cGen_inv {T : Tabs} {sc : Scope} {c : CEnv} {t iter : Expr} {fs : List Expr} {async : Int} {tg : Nat} {it : It} {ifs : Es} (h : cGen T sc c [⟨t, iter, fs, async⟩] = some (tg, it, ifs)) :
    ∃ y px, t = .Name y px ∧ async = 0 ∧ (compC c sc).names.lookup y = some .local ∧ cVar (compC c sc) y = some tg ∧ cEs T (compC c sc) fs = some ifs ∧ (cR T c iter = some it ∨ ∃ a, cR T c iter = none ∧ cE T c iter = some a ∧ it = .ex a) := by
  rw [cGen] at h
  cases h1 : nameIs t with
  | none => rw [h1] at h; cases h
  | some y =>
    rw [h1] at h
    cases h2 : cEs T (compC c sc) fs with
    | none => rw [h2] at h; cases h
    | some fs' =>
      rw [h2] at h
      simp only at h
      split at h
      · rename_i hc
        cases t with
        | Name y' px =>
          cases h1
          split at h
          · rename_i i it' hv hR; cases h; exact ⟨_, px, rfl, hc.1, hc.2, hv, rfl, .inl hR⟩
          · rename_i i a hv hR hE; cases h; exact ⟨_, px, rfl, hc.1, hc.2, hv, rfl, .inr ⟨a, hR, hE, rfl⟩⟩
          · cases h
        | _ => cases h1
      · cases h

section
variable {K : Kx} {A : Around} {cl : Cl} {T : Tabs}

mutual
theorem sE (hy : Hy K A cl T) : ∀ (e : Expr) (c : CEnv) (env : Env) (a : Ex), cE T c e = some a → PE K A env c cl e a ∧ PT K A env c cl e a
  | .Constant k n p, c, env, a, h => by
    simp only [cE, Option.map_eq_some_iff] at h
    obtain ⟨v, hv, rfl⟩ := h
    have := pe_const (K := K) (A := A) (env := env) (c := c) (cl := cl) (n := n) (pos := p) hv
    exact ⟨this, pt_plain this fun _ => rfl⟩
  | .Name x p, c, env, a, h => by
    simp only [cE] at h
    have := pe_name (A := A) (env := env) (cl := cl) (pos := p) hy.G h
    exact ⟨this, pt_plain this fun _ => rfl⟩
  | .BinOp l op r p, c, env, a, h => by
    simp only [cE] at h
    split at h
    · rename_i x o y h1 h2 h3
      cases h
      have := pe_bin (pos := p) h2 (sE hy l c env x h1).1 (sE hy r c env y h3).1
      exact ⟨this, pt_plain this fun _ => rfl⟩
    · cases h
  | .UnaryOp op x p, c, env, a, h => by
    simp only [cE] at h
    split at h
    · rename_i y h1
      cases h
      have := pe_neg (pos := p) (sE hy x c env y h1).1
      exact ⟨this, pt_plain this fun _ => rfl⟩
    · rename_i y h1
      cases h
      have ih := sE hy x c env y h1
      exact ⟨pe_not ih.1, pt_not ih.2⟩
    · cases h
  | .BoolOp op vs p, c, env, a, h => by
    simp only [cE] at h
    have ih := sB hy op vs c env a h
    exact ⟨fun ℓ σ v σ' he ρ s hr fo => ih.1 p ℓ σ v σ' he ρ s hr fo, fun ℓ σ v σ' b he hb ρ s hr fo => ih.2 ℓ σ v σ' b he hb ρ s hr fo⟩
  | .Compare l ops cs p, c, env, a, h => by
    simp only [cE] at h
    split at h
    · rename_i x r h1 h2
      cases h
      have ih := (sE hy l c env x h1).1
      have ihc := sCh hy cs ops c env r h2
      exact ⟨pe_cmp (marked_of h2) ih ihc, pt_cmp (marked_of h2) ih ihc⟩
    · cases h
  | .IfExp t b o p, c, env, a, h => by
    simp only [cE] at h
    split at h
    · rename_i x y z h1 h2 h3
      cases h
      have i1 := sE hy t c env x h1
      have i2 := sE hy b c env y h2
      have i3 := sE hy o c env z h3
      exact ⟨pe_ife i1.2 i2.1 i3.1, pt_ife i1.2 i2.2 i3.2⟩
    · cases h
  | .Tuple es k p, c, env, a, h => by
    simp only [cE, Option.map_eq_some_iff] at h
    obtain ⟨as, h1, rfl⟩ := h
    have := pe_tup (k := k) (pos := p) (sEs hy es c env as h1)
    exact ⟨this, pt_plain this fun _ => rfl⟩
  | .List es p, c, env, a, h => by
    simp only [cE, Option.map_eq_some_iff] at h
    obtain ⟨as, h1, rfl⟩ := h
    have := pe_lst (pos := p) (sEs hy es c env as h1)
    exact ⟨this, pt_plain this fun _ => rfl⟩
  | .Subscript v i p, c, env, a, h => by
    simp only [cE] at h
    split at h
    · rename_i x y z w h1 h2
      cases h
      cases i with
      | Slice lo hi st q =>
        simp only [cS] at h2
        split at h2
        · rename_i h3 h4 h5
          cases h2
          have := pe_slc (p := q) (pos := p) (sE hy v c env x h1).1 (sO hy lo c env _ h3) (sO hy hi c env _ h4) (sO hy st c env _ h5)
          exact ⟨this, pt_plain this fun _ => rfl⟩
        · cases h2
      | _ => simp [cS] at h2
    · rename_i x y h1 h2 h3
      cases h
      have := pe_idx (pos := p) (sE hy v c env x h1).1 (sE hy i c env y h3).1
      exact ⟨this, pt_plain this fun _ => rfl⟩
    · cases h
  | .ListComp elt gens sc p, c, env, a, h => by
    simp only [cE] at h
    split at h
    · rename_i tg it ifs x h1 h2
      split at h
      · rename_i hok
        cases h
        match gens, h1 with
        | [⟨t, iter, fs, async⟩], h1 =>
          obtain ⟨y, px, rfl, rfl, hloc, hv, hfs, hor⟩ := cGen_inv h1
          rcases hor with hR | ⟨a', hR, hE, rfl⟩
          · have hI := sR hy iter c env it hR
            have := pe_comp (px := px) (pos := p) hy.hh (compOK_of hok) (folded_R hR env) hv hloc hI (fun cenv => (sE hy elt _ cenv x h2).1) (fun cenv => sFs hy fs _ cenv ifs hfs)
            exact ⟨this, pt_plain this fun _ => rfl⟩
          · have hI := pi_ex (sE hy iter c env _ hE).1
            have := pe_comp (px := px) (pos := p) hy.hh (compOK_of hok) (folded_of hE env) hv hloc hI (fun cenv => (sE hy elt _ cenv x h2).1) (fun cenv => sFs hy fs _ cenv ifs hfs)
            exact ⟨this, pt_plain this fun _ => rfl⟩
        | [], h1 => exact absurd h1 (by rw [show cGen T sc c [] = none from rfl]; exact fun e => nomatch e)
        | _ :: _ :: _, h1 => exact absurd h1 (by rw [cGen_two]; exact fun e => nomatch e)
      · cases h
    · cases h
  | .Call f as ks p, c, env, a, h => by
    simp only [cE] at h
    split at h
    · rename_i xs h1
      split at h
      · rename_i hlen
        have ihs := sEs hy as c env xs h1
        cases f with
        | Name g q =>
          simp only [cF, cCall] at h
          split at h
          · rename_i hg
            split at h
            · rename_i n hn
              cases h
              have := pe_call (p := q) (pos := p) hy.G hy.call hg hn h1 ihs
              exact ⟨this, pt_plain this fun _ => rfl⟩
            · split at h
              · rename_i b hb
                cases h
                have := pe_blt (p := q) (pos := p) hy.G hy.ty hy.hh (fun e => by subst e; exact hy.sort ⟨_, hb⟩) hg hb h1 ihs
                exact ⟨this, pt_plain this fun _ => rfl⟩
              · rw [hy.plain.1] at h; cases h
          · cases h
        | Attribute o m q =>
          simp only [cF] at h
          split at h
          · rename_i x ho
            split at h
            · rename_i hc
              simp only [Bool.and_eq_true, Bool.not_eq_true'] at hc
              have io := (sE hy o c env x ho).1
              unfold cMeth at h
              split at h
              · rename_i hm
                cases h
                obtain rfl := beq_iff_eq.mp hm
                have := pe_mth (mm := .append) (p := q) (pos := p) hc.1 hc.2 hlen h1 io ihs
                exact ⟨this, pt_plain this fun _ => rfl⟩
              · split at h
                · rename_i hm
                  cases h
                  obtain rfl := beq_iff_eq.mp hm
                  have := pe_mth (mm := .pop) (p := q) (pos := p) hc.1 hc.2 hlen h1 io ihs
                  exact ⟨this, pt_plain this fun _ => rfl⟩
                · split at h
                  · rename_i hm
                    cases h
                    obtain rfl := beq_iff_eq.mp hm
                    have := pe_mth (mm := .index) (p := q) (pos := p) hc.1 hc.2 hlen h1 io ihs
                    exact ⟨this, pt_plain this fun _ => rfl⟩
                  · rw [hy.plain.2.1] at h; cases h
            · cases h
          · cases h
        | _ => simp [cF] at h
      · cases h
    · cases h
  | .Attribute o m p, c, env, a, h => by
    simp only [cE, hy.plain.2.2] at h
    split at h
    · rename_i h1; cases h1
    · cases h
  | .NamedExpr _ _ _, c, env, a, h => by simp [cE] at h
  | .Lambda _ _ _ _, c, env, a, h => by simp [cE] at h
  | .Dict _ _ _, c, env, a, h => by simp [cE] at h
  | .Set _ _ _, c, env, a, h => by simp [cE] at h
  | .SetComp _ _ _ _, c, env, a, h => by simp [cE] at h
  | .DictComp _ _ _ _ _, c, env, a, h => by simp [cE] at h
  | .GeneratorExp _ _ _ _, c, env, a, h => by simp [cE] at h
  | .Await _ _, c, env, a, h => by simp [cE] at h
  | .Yield _ _, c, env, a, h => by simp [cE] at h
  | .YieldFrom _ _, c, env, a, h => by simp [cE] at h
  | .FormattedValue _ _ _ _, c, env, a, h => by simp [cE] at h
  | .JoinedStr _ _, c, env, a, h => by simp [cE] at h
  | .Starred _ _, c, env, a, h => by simp [cE] at h
  | .Slice _ _ _ _, c, env, a, h => by simp [cE] at h
theorem sR (hy : Hy K A cl T) : ∀ (e : Expr) (c : CEnv) (env : Env) (it : It), cR T c e = some it → PI K A env c cl e it
  | .Call f as ks p, c, env, it, h => by
    simp only [cR] at h
    split at h
    · rename_i g x n1 n2
      have ihs := sEs hy as c env _ n2
      cases f with
      | Name g' q =>
        cases n1
        split at h
        · rename_i hg
          split at h
          · rename_i hr
            cases h
            exact pi_rng1 (p := q) (pos := p) hy.G hg hr n2 ihs
          · split at h
            · rename_i hen
              cases h
              intro ℓ σ src σ' he
              simp [evalIt] at he
            · cases h
        · cases h
      | _ => cases n1
    · rename_i g x y n1 n2
      have ihs := sEs hy as c env _ n2
      cases f with
      | Name g' q =>
        cases n1
        split at h
        · rename_i hg
          cases h
          simp only [Bool.and_eq_true] at hg
          exact pi_rng2 (p := q) (pos := p) hy.G hg.1 hg.2 n2 ihs
        · cases h
      | _ => cases n1
    · cases h
  | .Constant _ _ _, c, env, it, h => by simp [cR] at h
  | .Name _ _, c, env, it, h => by simp [cR] at h
  | .BinOp _ _ _ _, c, env, it, h => by simp [cR] at h
  | .UnaryOp _ _ _, c, env, it, h => by simp [cR] at h
  | .BoolOp _ _ _, c, env, it, h => by simp [cR] at h
  | .Compare _ _ _ _, c, env, it, h => by simp [cR] at h
  | .IfExp _ _ _ _, c, env, it, h => by simp [cR] at h
  | .Tuple _ _ _, c, env, it, h => by simp [cR] at h
  | .List _ _, c, env, it, h => by simp [cR] at h
  | .Subscript _ _ _, c, env, it, h => by simp [cR] at h
  | .ListComp _ _ _ _, c, env, it, h => by simp [cR] at h
  | .Attribute _ _ _, c, env, it, h => by simp [cR] at h
  | .NamedExpr _ _ _, c, env, it, h => by simp [cR] at h
  | .Lambda _ _ _ _, c, env, it, h => by simp [cR] at h
  | .Dict _ _ _, c, env, it, h => by simp [cR] at h
  | .Set _ _ _, c, env, it, h => by simp [cR] at h
  | .SetComp _ _ _ _, c, env, it, h => by simp [cR] at h
  | .DictComp _ _ _ _ _, c, env, it, h => by simp [cR] at h
  | .GeneratorExp _ _ _ _, c, env, it, h => by simp [cR] at h
  | .Await _ _, c, env, it, h => by simp [cR] at h
  | .Yield _ _, c, env, it, h => by simp [cR] at h
  | .YieldFrom _ _, c, env, it, h => by simp [cR] at h
  | .FormattedValue _ _ _ _, c, env, it, h => by simp [cR] at h
  | .JoinedStr _ _, c, env, it, h => by simp [cR] at h
  | .Starred _ _, c, env, it, h => by simp [cR] at h
  | .Slice _ _ _ _, c, env, it, h => by simp [cR] at h
theorem sFs (hy : Hy K A cl T) : ∀ (es : List Expr) (c : CEnv) (env : Env) (as : Es), cEs T c es = some as → PF K A env c cl es as
  | [], c, env, as, h => by simp only [cEs] at h; cases h; exact pf_nil
  | e :: es, c, env, as, h => by
    simp only [cEs] at h
    split at h
    · rename_i a b h1 h2
      cases h
      exact pf_cons (sE hy e c env a h1).2 (sFs hy es c env b h2)
    · cases h
theorem sEs (hy : Hy K A cl T) : ∀ (es : List Expr) (c : CEnv) (env : Env) (as : Es), cEs T c es = some as → PEs K A env c cl es as
  | [], c, env, as, h => by simp only [cEs] at h; cases h; exact pes_nil
  | e :: es, c, env, as, h => by
    simp only [cEs] at h
    split at h
    · rename_i a b h1 h2
      cases h
      exact pes_cons (star_plain h1 es) (sE hy e c env a h1).1 (sEs hy es c env b h2)
    · cases h
theorem sB (hy : Hy K A cl T) (op : BoolOp) : ∀ (es : List Expr) (c : CEnv) (env : Env) (a : Ex), cB T op c es = some a → PB K A env c cl op es a
  | [], c, env, a, h => by simp [cB] at h
  | [e], c, env, a, h => by
    simp only [cB] at h
    have ih := sE hy e c env a h
    exact pb_one ih.1 ih.2
  | e :: e' :: es, c, env, a, h => by
    simp only [cB] at h
    split at h
    · rename_i x y h1 h2
      cases h
      have ih := sE hy e c env x h1
      exact pb_cons ih.1 ih.2 (sB hy op (e' :: es) c env y h2)
    · cases h
theorem sCh (hy : Hy K A cl T) : ∀ (es : List Expr) (ops : List CmpOp) (c : CEnv) (env : Env) (r : Ch), cCh T c ops es = some r → PC K A env c cl ops es r
  | [], ops, c, env, r, h => by cases ops with | nil => simp [cCh] at h | cons o ops => cases ops <;> simp [cCh] at h
  | [e], ops, c, env, r, h => by
    cases ops with
    | nil => simp [cCh] at h
    | cons op ops =>
      cases ops with
      | nil =>
        simp only [cCh, Option.map_eq_some_iff] at h
        obtain ⟨a, ha, rfl⟩ := h
        exact pc_one hy.hu (sE hy e c env a ha).1
      | cons op' ops =>
        exfalso
        simp only [cCh] at h
        split at h
        · rename_i h1; cases ops <;> simp [cCh] at h1
        · cases h
  | e :: e' :: es, ops, c, env, r, h => by
    cases ops with
    | nil => simp [cCh] at h
    | cons op ops =>
      cases ops with
      | nil =>
        exfalso
        simp only [cCh] at h
        split at h
        · rename_i h1; simp [cCh] at h1
        · cases h
      | cons op' ops =>
        simp only [cCh] at h
        split at h
        · rename_i a b h1 h2
          cases h
          exact pc_more hy.hu (sE hy e c env a h1).1 (sCh hy (e' :: es) (op' :: ops) c env b h2)
        · cases h
theorem sO (hy : Hy K A cl T) : ∀ (eo : Option Expr) (c : CEnv) (env : Env) (a : Oe), cO T c eo = some a → PO K A env c cl eo a
  | .none, c, env, a, h => by simp only [cO] at h; cases h; exact po_no
  | some e, c, env, a, h => by
    simp only [cO, Option.map_eq_some_iff] at h
    obtain ⟨x, h1, rfl⟩ := h
    exact po_yes (sE hy e c env x h1).1
end
end
end Mini

/-! Statements. -/
set_option autoImplicit false
namespace Mini
open PySem PyProof.Rows PySem.SeqAt

noncomputable def FR (K : Kx) (ρ : List Addr) (h : Heap) : Fl → Flow → Prop
  | .next, .next => True
  | .brk, .brk => True
  | .ret v, .ret cv => RV K ρ h v cv
  | _, _ => False

/-- a statement does as the evaluator says -/
noncomputable def TS (K : Kx) (A : Around) (env : Env) (c : CEnv) (t : Sem Flow) (ρ : List Addr) (s : Shared) (f : Fl) (ℓ' : L) (σ' : H) : Prop :=
  wpAny K.M A t (fun cf s' => ∃ ρ', HR K ρ' σ' s'.heap ∧ StepX (frameX env) ρ s ρ' s' ∧ FO K env c ℓ' ρ' s'.heap ∧ FR K ρ' s'.heap f cf) (fun _ _ => False) s

noncomputable def NX (f : Fl) : Prop := ∀ k, f ≠ .exc k

noncomputable def PS (K : Kx) (A : Around) (env : Env) (c : CEnv) (cl : Cl) (st : Stmt) (a : St) : Prop :=
  ∀ ℓ σ f ℓ' σ', exec cl a ℓ σ = some (f, ℓ', σ') → NX f → ∀ ρ s, HR K ρ σ s.heap → FO K env c ℓ ρ s.heap → TS K A env c (PySem.exec st env) ρ s f ℓ' σ'
noncomputable def PSs (K : Kx) (A : Around) (env : Env) (c : CEnv) (cl : Cl) (ss : List Stmt) (a : Ss) : Prop :=
  ∀ ℓ σ f ℓ' σ', execs cl a ℓ σ = some (f, ℓ', σ') → NX f → ∀ ρ s, HR K ρ σ s.heap → FO K env c ℓ ρ s.heap → TS K A env c (PySem.execs ss env) ρ s f ℓ' σ'

theorem bndY_inv {α : Type} {x : X α} {ℓ : L} {k : α → H → Y} {f : Fl} {ℓ' : L} {σ' : H} (h : bndY x ℓ k = some (f, ℓ', σ')) (hf : NX f) : ∃ a σ1, x = some (.ok a, σ1) ∧ k a σ1 = some (f, ℓ', σ') := by
  unfold bndY at h
  split at h
  · cases h
  · exact ⟨_, _, rfl, h⟩
  · cases h; exact absurd rfl (hf _)

section
variable {K : Kx} {A : Around} {env : Env} {c : CEnv} {cl : Cl} {T : Tabs}

theorem StepX.then {ℓ : L} {ρ ρ1 ρ2 : List Addr} {s s1 s2 : Shared} (x : StepX (frameX env) ρ s ρ1 s1) (fo : FO K env c ℓ ρ1 s1.heap) (y : StepX (frameX env) ρ1 s1 ρ2 s2) : StepX (frameX env) ρ s ρ2 s2 := x.trans y fo.X_some

theorem pss_nil : PSs K A env c cl [] .nil := by
  intro ℓ σ f ℓ' σ' he hf ρ s hr fo
  cases he
  exact wpAny_execs_nil ⟨ρ, hr, StepX.refl _ _ _, fo, trivial⟩
theorem pss_cons {st : Stmt} {ss : List Stmt} {a : St} {b : Ss} (h : PS K A env c cl st a) (h' : PSs K A env c cl ss b) : PSs K A env c cl (st :: ss) (.cons a b) := by
  intro ℓ σ f ℓ' σ' he hf ρ s hr fo
  simp only [execs] at he
  cases h1 : exec cl a ℓ σ with
  | none => rw [h1] at he; cases he
  | some y =>
    obtain ⟨f1, ℓ1, σ1⟩ := y
    rw [h1] at he
    cases f1 with
    | next =>
      simp only [seqY_next] at he
      refine wpAny_execs_cons (wpAny_mono (h ℓ σ .next ℓ1 σ1 h1 (by intro k e; cases e) ρ s hr fo) (fun cf s1 hq => ?_) fun _ _ f => f)
      obtain ⟨ρ1, hr1, st1, fo1, hfr⟩ := hq
      cases cf with
      | next =>
        refine wpAny_mono (h' ℓ1 σ1 f ℓ' σ' he hf ρ1 s1 hr1 fo1) (fun cf s2 hq => ?_) fun _ _ f => f
        obtain ⟨ρ2, hr2, st2, fo2, hfr2⟩ := hq
        exact ⟨ρ2, hr2, st1.then fo1 st2, fo2, hfr2⟩
      | brk => exact False.elim hfr
      | cont => exact False.elim hfr
      | ret v => exact False.elim hfr
    | brk =>
      simp only [seqY_brk] at he
      cases he
      refine wpAny_execs_cons (wpAny_mono (h ℓ σ .brk ℓ' σ' h1 (by intro k e; cases e) ρ s hr fo) (fun cf s1 hq => ?_) fun _ _ f => f)
      obtain ⟨ρ1, hr1, st1, fo1, hfr⟩ := hq
      cases cf with
      | brk => exact ⟨ρ1, hr1, st1, fo1, hfr⟩
      | next => exact False.elim hfr
      | cont => exact False.elim hfr
      | ret v => exact False.elim hfr
    | ret v =>
      simp only [seqY_ret] at he
      cases he
      refine wpAny_execs_cons (wpAny_mono (h ℓ σ (.ret v) ℓ' σ' h1 (by intro k e; cases e) ρ s hr fo) (fun cf s1 hq => ?_) fun _ _ f => f)
      obtain ⟨ρ1, hr1, st1, fo1, hfr⟩ := hq
      cases cf with
      | ret cv => exact ⟨ρ1, hr1, st1, fo1, hfr⟩
      | next => exact False.elim hfr
      | cont => exact False.elim hfr
      | brk => exact False.elim hfr
    | exc k => simp only [seqY_exc] at he; cases he; exact absurd rfl (hf k)

theorem ps_expr {e : Expr} {pos : Pos} {a : Ex} (hc : isComp e = false) (h : PE K A env c cl e a) : PS K A env c cl (.Expr e pos) (.expr a) := by
  intro ℓ σ f ℓ' σ' he hf ρ s hr fo
  simp only [exec] at he
  obtain ⟨v, σ1, h1, he⟩ := bndY_inv he hf
  cases he
  refine wpAny_Expr_any (wpAny_mono (h ℓ σ v σ' h1 ρ s hr fo) (fun cv s1 hq => ?_) fun _ _ f => f) (by unfold interactive; rw [fo.kind]; rfl) (by cases e <;> first | rfl | (cases hc))
  obtain ⟨ρ1, g1, _⟩ := hq
  exact ⟨ρ1, g1.hr, g1.st.toX _, fo.step hr g1.st, trivial⟩

theorem ps_ret {e : Expr} {pos : Pos} {a : Ex} (h : PE K A env c cl e a) : PS K A env c cl (.Return (some e) pos) (.ret a) := by
  intro ℓ σ f ℓ' σ' he hf ρ s hr fo
  simp only [exec] at he
  obtain ⟨v, σ1, h1, he⟩ := bndY_inv he hf
  cases he
  refine wpAny_Return_some (wpAny_mono (h ℓ σ v σ' h1 ρ s hr fo) (fun cv s1 hq => ?_) fun _ _ f => f)
  obtain ⟨ρ1, g1, rv⟩ := hq
  exact ⟨ρ1, g1.hr, g1.st.toX _, fo.step hr g1.st, rv⟩
theorem ps_ret0 {pos : Pos} : PS K A env c cl (.Return none pos) (.ret (.lit .none)) := by
  intro ℓ σ f ℓ' σ' he hf ρ s hr fo
  simp only [exec, evalE, bndY_ok] at he
  cases he
  exact wpAny_Return_none ⟨ρ, hr, StepX.refl _ _ _, fo, .none⟩

theorem ps_if {t : Expr} {x y : List Stmt} {pos : Pos} {a : Ex} {b d : Ss} (ht : PT K A env c cl t a) (hx : PSs K A env c cl x b) (hy : PSs K A env c cl y d) : PS K A env c cl (.If t x y pos) (.ife a b d) := by
  intro ℓ σ f ℓ' σ' he hf ρ s hr fo
  simp only [exec] at he
  obtain ⟨v, σ1, h1, he⟩ := bndY_inv he hf
  show wpAny K.M A (do standAt pos; if ← isTrue t env (eval t env) then PySem.execs x env else PySem.execs y env) _ _ s
  refine wpAny_bind (wpAny_standAt (wpAny_bind ?_))
  split at he
  · rename_i hv
    refine wpAny_mono (ht ℓ σ v σ1 true h1 hv ρ s hr fo) (fun q s1 hq => ?_) fun _ _ f => f.elim
    obtain ⟨ρ1, g1, rfl⟩ := hq
    refine wpAny_mono (hx ℓ σ1 f ℓ' σ' he hf ρ1 s1 g1.hr (fo.step hr g1.st)) (fun cf s2 hq => ?_) fun _ _ f => f
    obtain ⟨ρ2, hr2, st2, fo2, hfr⟩ := hq
    exact ⟨ρ2, hr2, (g1.st.toX _).then (fo.step hr g1.st) st2, fo2, hfr⟩
  · rename_i hv
    refine wpAny_mono (ht ℓ σ v σ1 false h1 hv ρ s hr fo) (fun q s1 hq => ?_) fun _ _ f => f.elim
    obtain ⟨ρ1, g1, rfl⟩ := hq
    refine wpAny_mono (hy ℓ σ1 f ℓ' σ' he hf ρ1 s1 g1.hr (fo.step hr g1.st)) (fun cf s2 hq => ?_) fun _ _ f => f
    obtain ⟨ρ2, hr2, st2, fo2, hfr⟩ := hq
    exact ⟨ρ2, hr2, (g1.st.toX _).then (fo.step hr g1.st) st2, fo2, hfr⟩
  · cases he

theorem ps_brk {pos : Pos} : PS K A env c cl (.Break pos) .brk := by
  intro ℓ σ f ℓ' σ' he hf ρ s hr fo
  simp only [exec] at he
  cases he
  exact wpAny_Break ⟨ρ, hr, StepX.refl _ _ _, fo, trivial⟩
theorem ps_pass {pos : Pos} : PS K A env c cl (.Pass pos) .pass := by
  intro ℓ σ f ℓ' σ' he hf ρ s hr fo
  simp only [exec] at he
  cases he
  exact wpAny_Pass ⟨ρ, hr, StepX.refl _ _ _, fo, trivial⟩

/-- the stored object is the frame's own -/
theorem own_X {x : Str} {a : Addr} (h : a = env.locals ∨ (c.names.lookup x = some .cell ∧ (x, a) ∈ env.cells)) : ∀ b ∈ [a], b ∈ frameX env := by
  intro b hb
  rw [List.mem_singleton.mp hb]
  rcases h with rfl | ⟨_, h⟩
  · exact List.mem_cons_self
  · exact List.mem_cons_of_mem _ (List.mem_map.mpr ⟨_, h, rfl⟩)

theorem ps_asg {x : Str} {px pos : Pos} {e : Expr} {i : Nat} {a : Ex} (hs : swapsWith e (some (.Name x px)) pos.line env = pure false) (hx : cVar c x = some i) (h : PE K A env c cl e a) : PS K A env c cl (.Assign [.Name x px] e pos) (.asg (.one i) a) := by
  intro ℓ σ f ℓ' σ' he hf ρ s hr fo
  simp only [exec, setTg] at he
  obtain ⟨v, σ1, h1, he⟩ := bndY_inv he hf
  obtain ⟨ℓ1, hset, e⟩ := Option.map_eq_some_iff.mp he
  cases e
  show wpAny K.M A (PySem.exec (.Assign [.Name x px] e pos) env) _ _ s
  rw [exec_Assign_Name _ _ _ _ _ hs]
  refine wpAny_bind (wpAny_standAt (wpAny_bind (wpAny_mono (h ℓ σ v σ' h1 ρ s hr fo) (fun cv s1 hq => ?_) fun _ _ f => f)))
  obtain ⟨ρ1, g1, rv⟩ := hq
  refine wpAny_bind (wpAny_standAt (wpAny_bind (wpAny_bindName (store_sound (fo.step hr g1.st) g1.hr hx hset rv fun s2 b hb hr2 st2 fo2 => wpAny_pure ?_))))
  exact ⟨ρ1, hr2, (g1.st.toX _).then (fo.step hr g1.st) (st2.weaken (own_X hb)), fo2, trivial⟩

/-- a comprehension's list goes into its name while the block's names are still there -/
theorem ps_asg_comp {x : Str} {px pos : Pos} {elt iter : Expr} {y : Str} {py p : Pos} {ifs : List Expr} {sc : Scope} {a : Ex} {it : It} {fs : Es} {tg i : Nat} (hh : A.handled = none) (ok : CompOK c sc) (hfs : ∀ v, foldedSetIterable iter env v = pure v)
    (hy : cVar (compC c sc) y = some tg) (hyl : (compC c sc).names.lookup y = some .local) (hI : PI K A env c cl iter it) (he : ∀ cenv, PE K A cenv (compC c sc) cl elt a) (hf : ∀ cenv, PF K A cenv (compC c sc) cl ifs fs)
    (hs : swapsWith (.ListComp elt [⟨.Name y py, iter, ifs, 0⟩] sc p) (some (.Name x px)) pos.line env = pure true) (hx : cVar c x = some i) :
    PS K A env c cl (.Assign [.Name x px] (.ListComp elt [⟨.Name y py, iter, ifs, 0⟩] sc p) pos) (.asg (.one i) (.comp a tg it fs)) := by
  intro ℓ σ f ℓ' σ' hev hnx ρ s hr fo
  simp only [exec, setTg] at hev
  obtain ⟨v, σ1, h1, hev⟩ := bndY_inv hev hnx
  obtain ⟨ℓ1, hset, e⟩ := Option.map_eq_some_iff.mp hev
  cases e
  simp only [evalE] at h1
  obtain ⟨src, σa, k1, h1⟩ := bnd_ok_inv h1
  obtain ⟨vs, σ2, k2, h1⟩ := bnd_ok_inv h1
  cases h1
  show wpAny K.M A (PySem.exec (.Assign [.Name x px] (.ListComp elt [⟨.Name y py, iter, ifs, 0⟩] sc p) pos) env) _ _ s
  rw [exec_Assign_Name_used (env := env) x px _ pos hs]
  refine wpAny_bind (wpAny_standAt (wpAny_bind ?_))
  unfold evalThenUse
  refine wpAny_bind (comp_main hh ok hfs hy hyl hI he hf k1 k2 hr fo fun s' D C ρ' cacc m e => ?_)
  obtain ⟨ρ'', g, r, hCρ⟩ := e.done (Heap.SameBut.refl C s'.heap)
  have fo1 := fo.step hr g.st
  obtain ⟨m', hnC⟩ := e.ns
  have hcn : ∀ b ∈ frameX env, b ≠ C := fun b hb => by
    obtain ⟨o, eo⟩ := fo.X_some b hb
    rintro rfl
    rw [e.newC] at eo; cases eo
  refine wpAny_assign_Name (store_sound fo1 g.hr hx hset r fun s2 b hb hr2 st2 fo2 => ?_)
  have hbX := own_X hb b List.mem_cons_self
  have hn2 : s2.heap.Ns C m' := Ns.at hnC fun o eo => st2.fr C o eo hCρ fun hm => hcn b hbX (List.mem_singleton.mp hm).symm
  refine ⟨m', hn2, fun h' hs' => wpAny_pure (wpAny_pure ?_)⟩
  have hbut : ∀ b o, b ≠ C → s2.heap.get? b = some o → h'.get? b = some o := fun b o hb e => (hs'.2 b hb).trans e
  refine ⟨ρ'', hr2.but hCρ e.c0 (Ns.not_tup hn2) hbut, ?_, fo2.but (fun e => hcn env.locals List.mem_cons_self e.symm) (fun y a hy => hcn a (List.mem_cons_of_mem _ (List.mem_map.mpr ⟨_, hy, rfl⟩))) (Ns.not_tup hn2) hbut, trivial⟩
  have st3 := (g.st.toX (frameX env)).then fo1 (st2.weaken (own_X hb))
  exact ⟨st3.pre, fun z o ez hz hX => hbut z o (by rintro rfl; rw [e.newC] at ez; cases ez) (st3.fr z o ez hz hX), st3.fresh, st3.gens, st3.os⟩
end
end Mini

/-! Loops. -/
set_option autoImplicit false
namespace Mini
open PySem PyProof.Rows PySem.SeqAt

section
variable {K : Kx} {A : Around} {env : Env} {c : CEnv} {cl : Cl} {T : Tabs}

theorem ItOK.move {ρ ρ' : List Addr} {I : Addr} {i : Nat} {h h' : Heap} {src : Src} {k : ItK} (x : ItOK K ρ I i h src k) (hp : ρ <+: ρ') (hI : ∀ o, h.get? I = some o → h'.get? I = some o) (ht : ∀ a vs, h.get? a = some (tupObj vs) → h'.get? a = some (tupObj vs)) (hoff : I ∉ ρ') : ItOK K ρ' I i h' src k := by
  refine ⟨?_, ?_, hoff, x.new⟩
  · have h := x.st
    cases k with
    | list n ax => obtain ⟨h1, o, e, h2⟩ := h; exact ⟨pre_get hp h1, o, hI _ e, h2⟩
    | tup ax cvs => obtain ⟨⟨o, e, h2⟩, h3⟩ := h; exact ⟨⟨o, hI _ e, h2⟩, ht _ _ h3⟩
    | frz ax cvs m => obtain ⟨⟨o, e, h2⟩, h3⟩ := h; exact ⟨⟨o, hI _ e, h2⟩, h3⟩
    | rng a m => exact hI _ h
  · have h := x.v
    cases k with
    | list n ax => exact h
    | tup ax cvs => exact ⟨h.1.mono hp ht, h.2⟩
    | frz ax cvs m => exact ⟨h.1.mono hp ht, h.2⟩
    | rng a m => exact h

/-- behind a step of the frame -/
theorem ItOK.stepX {ρ ρ' : List Addr} {I : Addr} {i : Nat} {σ : H} {ℓ : L} {s s' : Shared} {src : Src} {k : ItK} (x : ItOK K ρ I i s.heap src k) (hr : HR K ρ σ s.heap) (fo : FO K env c ℓ ρ s.heap) (hI : I ∉ frameX env) (st : StepX (frameX env) ρ s ρ' s') : ItOK K ρ' I i s'.heap src k := by
  obtain ⟨o, eo, _⟩ := x.st.obj
  refine x.move st.pre (fun o e => st.fr I o e x.off hI) (st.tups hr fo.X_nt) fun hm => ?_
  rcases st.fresh I hm with h | h
  · exact x.off h
  · rw [eo] at h; cases h

structure FInv (K : Kx) (env : Env) (c : CEnv) (src : Src) (k : ItK) (body : L → H → Y) (tg : Nat) (f : Fl) (ℓf : L) (σf : H) (ρ2 : List Addr) (s2 : Shared) (I : Addr) (i : Nat) (s : Shared) (ρ' : List Addr) (σ' : H) (ℓ' : L) : Prop where
  run : forL body (.one tg) src.keep (src.vs.drop i) ℓ' σ' = some (f, ℓf, σf)
  hr : HR K ρ' σ' s.heap
  st : StepX (I :: frameX env) ρ2 s2 ρ' s
  it : ItOK K ρ' I i s.heap src k
  keep : src.keep σ'
  fo : FO K env c ℓ' ρ' s.heap
  le : i ≤ src.vs.length

theorem ps_for {x : Str} {px pos : Pos} {iter : Expr} {it : It} {body : List Stmt} {b : Ss} {tg : Nat} (hh : A.handled = none) (hfs : ∀ v, foldedSetIterable iter env v = pure v) (hx : cVar c x = some tg) (hI : PI K A env c cl iter it) (hb : PSs K A env c cl body b) :
    PS K A env c cl (.For (.Name x px) iter body [] pos) (.for_ (.one tg) it b) := by
  intro ℓ σ f ℓf σf hev hnx ρ s hr fo
  simp only [exec] at hev
  obtain ⟨src, σ1, h1, hev⟩ := bndY_inv hev hnx
  refine wpAny_For (wpAny_mono (hI ℓ σ src σ1 h1 ρ s hr fo) (fun xv s1 hq => wpAny_mono hq (fun itv s2 hq => ?_) fun _ _ f => f.elim) fun _ _ f => f.elim) hfs
  obtain ⟨ρ2, I, k, rfl, g2, itok, hkeep, hInone⟩ := hq
  have hIX : I ∉ frameX env := fun hm => by obtain ⟨o, e⟩ := fo.X_some I hm; rw [hInone] at e; cases e
  have fo2 := fo.step hr g2.st
  have fin : ∀ (ρ' : List Addr) (s' : Shared), StepX (I :: frameX env) ρ2 s2 ρ' s' → StepX (frameX env) ρ s ρ' s' := by
    intro ρ' s' st
    refine ⟨g2.st.pre.trans st.pre, fun z o e hz hX => ?_, fun z hz => ?_, st.gens.trans g2.st.gens, st.os.trans g2.st.os⟩
    · refine st.fr z o (g2.st.fr z o e hz) (fun h => ?_) fun h => ?_
      · rcases g2.st.fresh z h with h | h
        · exact hz h
        · rw [e] at h; cases h
      · rcases List.mem_cons.mp h with rfl | h
        · rw [hInone] at e; cases e
        · exact hX h
    · rcases st.fresh z hz with h | h
      · exact g2.st.fresh z h
      · by_cases hr' : z ∈ ρ
        · exact .inl hr'
        · right
          cases hg : s.heap.get? z with
          | none => rfl
          | some o => rw [g2.st.fr z o hg hr'] at h; cases h
  refine codeAny_forLoop (fun n s => ∃ i ρ' σ' ℓ', n = src.vs.length - i ∧ FInv K env c src k (execs cl b) tg f ℓf σf ρ2 s2 I i s ρ' σ' ℓ') (fun n s hJ => ?_) (src.vs.length - 0) ⟨0, ρ2, σ1, ℓ, rfl, ⟨hev, g2.hr, StepX.refl _ _ _, itok, hkeep, fo2, Nat.zero_le _⟩⟩
  obtain ⟨i, ρ', σ', ℓ', hn, inv⟩ := hJ
  have hIc : ∀ y a, (y, a) ∈ env.cells → a ≠ I := fun y a hy => by rintro rfl; exact hIX (List.mem_cons_of_mem _ (List.mem_map.mpr ⟨_, hy, rfl⟩))
  have hIL : I ≠ env.locals := by rintro rfl; exact hIX List.mem_cons_self
  have hex : ∀ z ∈ I :: frameX env, ∃ o, s.heap.get? z = some o := by
    intro z hz
    rcases List.mem_cons.mp hz with rfl | h
    · obtain ⟨o, e, _⟩ := inv.it.st.obj; exact ⟨o, e⟩
    · exact inv.fo.X_some z h
  rcases Nat.lt_or_ge i src.vs.length with hi | hi
  · have hdrop : src.vs.drop i = src.vs[i] :: src.vs.drop (i + 1) := List.drop_eq_getElem_cons hi
    have hrun := inv.run
    rw [hdrop] at hrun
    simp only [forL, setTg] at hrun
    split at hrun
    · cases hrun
    rename_i ℓ1 hset
    refine it_next hh inv.it inv.hr inv.keep (v := src.vs[i]) (List.getElem?_eq_getElem hi) fun cv h1 tk1 hk1 hr1 rv1 it1 => ?_
    have hInt := inv.it.not_tup
    have foA : FO K env c ℓ' ρ' h1 := inv.fo.but hIL hIc hInt hk1
    have stA : StepX (I :: frameX env) ρ2 s2 ρ' { s with heap := h1, toks := tk1 } := inv.st.trans ((StepX.one hk1).weaken (by simp)) hex
    refine wpAny_assign_Name (store_sound (s := { s with heap := h1, toks := tk1 }) foA hr1 hx hset rv1 fun sB b' hb' hrB stB foB => ?_)
    have stB' := stB.weaken (own_X hb')
    have itB : ItOK K ρ' I (i + 1) sB.heap src k := ItOK.stepX (s := { s with heap := h1, toks := tk1 }) it1 hr1 foA hIX stB'
    have hexA : ∀ z ∈ I :: frameX env, ∃ o, h1.get? z = some o := by
      intro z hz
      rcases List.mem_cons.mp hz with rfl | h
      · obtain ⟨o, e, _⟩ := it1.st.obj; exact ⟨o, e⟩
      · exact foA.X_some z h
    have hexB : ∀ z ∈ I :: frameX env, ∃ o, sB.heap.get? z = some o := by
      intro z hz
      rcases List.mem_cons.mp hz with rfl | h
      · obtain ⟨o, e, _⟩ := itB.st.obj; exact ⟨o, e⟩
      · exact foB.X_some z h
    have stB2 : StepX (I :: frameX env) ρ2 s2 ρ' sB := stA.trans (stB'.weaken fun a h => List.mem_cons_of_mem _ h) hexA
    have stEnd : ∀ ρC sC, StepX (frameX env) ρ' sB ρC sC → StepX (I :: frameX env) ρ2 s2 ρC sC := fun ρC sC st => stB2.trans (st.weaken fun a h => List.mem_cons_of_mem _ h) hexB
    cases hbody : execs cl b ℓ1 σ' with
    | none => rw [hbody] at hrun; cases hrun
    | some y =>
      obtain ⟨f1, ℓ2, σ2⟩ := y
      rw [hbody] at hrun
      have hnx1 : NX f1 := by rintro kk rfl; cases hrun
      refine wpAny_mono (hb ℓ1 σ' f1 ℓ2 σ2 hbody hnx1 ρ' sB hrB foB) (fun cf sC hq => ?_) fun _ _ f => f.elim
      obtain ⟨ρC, hrC, stC, foC, frC⟩ := hq
      cases f1 with
      | next =>
        cases cf with
        | next =>
          simp only at hrun
          split at hrun
          · rename_i hkC
            exact ⟨src.vs.length - (i + 1), by omega, i + 1, ρC, σ2, ℓ2, rfl, ⟨hrun, hrC, stEnd _ _ stC, ItOK.stepX itB hrB foB hIX stC, hkC, foC, hi⟩⟩
          · cases hrun
        | _ => exact frC.elim
      | brk =>
        cases cf with
        | brk => cases hrun; exact ⟨ρC, hrC, fin _ _ (stEnd _ _ stC), foC, trivial⟩
        | _ => exact frC.elim
      | ret v =>
        cases cf with
        | ret cv => cases hrun; exact ⟨ρC, hrC, fin _ _ (stEnd _ _ stC), foC, frC⟩
        | _ => exact frC.elim
      | exc kk => exact absurd rfl (hnx1 kk)
  · have hie : i = src.vs.length := Nat.le_antisymm inv.le hi
    have hrun := inv.run
    rw [List.drop_eq_nil_of_le hi] at hrun
    simp only [forL] at hrun
    cases hrun
    refine it_done hh inv.it inv.hr inv.keep hie fun h1 tk1 hk1 hr1 => wpAny_execs_nil ?_
    exact ⟨ρ', hr1, fin _ { s with heap := h1, toks := tk1 } (inv.st.trans ((StepX.one hk1).weaken (by simp)) hex), inv.fo.but hIL hIc inv.it.not_tup hk1, trivial⟩

theorem ps_while {t : Expr} {body : List Stmt} {pos : Pos} {a : Ex} {b : Ss} (ht : PT K A env c cl t a) (hb : PSs K A env c cl body b) : PS K A env c cl (.While t body [] pos) (.whl a b) := by
  intro ℓ σ f ℓf σf hev hnx ρ s hr fo
  simp only [exec] at hev
  refine wpAny_While (codeAny_whileLoop (fun n s' => ∃ ρ' σ' ℓ', whileL (evalE cl a) (execs cl b) n ℓ' σ' = some (f, ℓf, σf) ∧ HR K ρ' σ' s'.heap ∧ StepX (frameX env) ρ s ρ' s' ∧ FO K env c ℓ' ρ' s'.heap) (fun n s' hI => ?_) whileMax ⟨ρ, σ, ℓ, hev, hr, StepX.refl _ _ _, fo⟩)
  obtain ⟨ρ', σ', ℓ', hrun, hr', st', fo'⟩ := hI
  cases n with
  | zero => cases hrun
  | succ n =>
    simp only [whileL] at hrun
    cases ht' : evalE cl a ℓ' σ' with
    | none => rw [ht'] at hrun; cases hrun
    | some y =>
      obtain ⟨r, σ1⟩ := y
      rw [ht'] at hrun
      cases r with
      | exc k => cases hrun
      | ok v =>
        simp only at hrun
        cases hv : truth v with
        | none => rw [hv] at hrun; cases hrun
        | some tb =>
          rw [hv] at hrun
          refine wpAny_mono (ht ℓ' σ' v σ1 tb ht' hv ρ' s' hr' fo') (fun q s1 hq => ?_) fun _ _ f => f.elim
          obtain ⟨ρ1, g1, rfl⟩ := hq
          have fo1 := fo'.step hr' g1.st
          have st1 := st'.then fo' (g1.st.toX _)
          cases q with
          | false =>
            simp only at hrun
            cases hrun
            exact wpAny_execs_nil ⟨ρ1, g1.hr, st1, fo1, trivial⟩
          | true =>
            simp only at hrun
            cases hbody : execs cl b ℓ' σ1 with
            | none => rw [hbody] at hrun; cases hrun
            | some y =>
              obtain ⟨f1, ℓ2, σ2⟩ := y
              rw [hbody] at hrun
              have hnx1 : NX f1 := by rintro kk rfl; cases hrun
              refine wpAny_mono (hb ℓ' σ1 f1 ℓ2 σ2 hbody hnx1 ρ1 s1 g1.hr fo1) (fun cf sC hq => ?_) fun _ _ f => f.elim
              obtain ⟨ρC, hrC, stC, foC, frC⟩ := hq
              cases f1 with
              | next =>
                cases cf with
                | next => exact ⟨n, Nat.lt_succ_self n, ρC, σ2, ℓ2, hrun, hrC, st1.then fo1 stC, foC⟩
                | _ => exact frC.elim
              | brk =>
                cases cf with
                | brk => cases hrun; exact ⟨ρC, hrC, st1.then fo1 stC, foC, trivial⟩
                | _ => exact frC.elim
              | ret v =>
                cases cf with
                | ret cv => cases hrun; exact ⟨ρC, hrC, st1.then fo1 stC, foC, frC⟩
                | _ => exact frC.elim
              | exc kk => exact absurd rfl (hnx1 kk)
end
end Mini

/-! The theorem for statements. -/
set_option autoImplicit false
namespace Mini
open PySem PyProof.Rows PySem.SeqAt

section
variable {K : Kx} {A : Around} {cl : Cl} {T : Tabs}

theorem swaps_plain {e : Expr} (h : isComp e = false) (t : Option Expr) (l : Nat) (env : Env) : swapsWith e t l env = pure false := by
  cases e <;> first | rfl | (cases h)

theorem swaps_comp (elt : Expr) (gens : List Comprehension) (sc : Scope) (p : Pos) (x : Str) (px : Pos) (l : Nat) (env : Env) : ∃ b, swapsWith (.ListComp elt gens sc p) (some (.Name x px)) l env = pure b := ⟨_, rfl⟩

theorem s_asg (hy : Hy K A cl T) {x : Str} {px pos : Pos} {v : Expr} {c : CEnv} {env : Env} {i : Nat} {a : Ex} (hx : cVar c x = some i) (h : cE T c v = some a) : PS K A env c cl (.Assign [.Name x px] v pos) (.asg (.one i) a) := by
  have hp := (sE hy v c env a h).1
  cases hc : isComp v with
  | false => exact ps_asg (swaps_plain hc _ _ _) hx hp
  | true =>
    cases v with
    | ListComp elt gens sc p =>
      obtain ⟨b, hb⟩ := swaps_comp elt gens sc p x px pos.line env
      cases b with
      | false => exact ps_asg hb hx hp
      | true =>
        simp only [cE] at h
        split at h
        · rename_i tg it ifs e' h1 h2
          split at h
          · rename_i hok
            cases h
            match gens, h1 with
            | [⟨t, iter, fs, async⟩], h1 =>
              obtain ⟨y, py, rfl, rfl, hloc, hv, hfs, hor⟩ := cGen_inv h1
              rcases hor with hR | ⟨a', hR, hE, rfl⟩
              · exact ps_asg_comp hy.hh (compOK_of hok) (folded_R hR env) hv hloc (sR hy iter c env it hR) (fun cenv => (sE hy elt _ cenv e' h2).1) (fun cenv => sFs hy fs _ cenv ifs hfs) hb hx
              · exact ps_asg_comp hy.hh (compOK_of hok) (folded_of hE env) hv hloc (pi_ex (sE hy iter c env _ hE).1) (fun cenv => (sE hy elt _ cenv e' h2).1) (fun cenv => sFs hy fs _ cenv ifs hfs) hb hx
            | [], h1 => exact absurd h1 (by rw [show cGen T sc c [] = none from rfl]; exact fun e => nomatch e)
            | _ :: _ :: _, h1 => exact absurd h1 (by rw [cGen_two]; exact fun e => nomatch e)
          · cases h
        · cases h
    | SetComp _ _ _ _ => simp [cE] at h
    | DictComp _ _ _ _ _ => simp [cE] at h
    | _ => cases hc

/-- what the evaluator does not answer -/
theorem ps_mute {env : Env} {c : CEnv} {st : Stmt} {a : St} (h : ∀ ℓ σ f ℓ' σ', exec cl a ℓ σ = some (f, ℓ', σ') → NX f → False) : PS K A env c cl st a := fun ℓ σ f ℓ' σ' he hf => (h ℓ σ f ℓ' σ' he hf).elim

theorem s_iter (hy : Hy K A cl T) {e : Expr} {c : CEnv} {env : Env} {it : It} (h : cIter T c e = some it) : PI K A env c cl e it ∧ ∀ v, foldedSetIterable e env v = pure v := by
  unfold cIter at h
  split at h
  · rename_i it' hR; cases h; exact ⟨sR hy e c env _ hR, folded_R hR env⟩
  · obtain ⟨a, ha, rfl⟩ := Option.map_eq_some_iff.mp h; exact ⟨pi_ex (sE hy e c env a ha).1, folded_of ha env⟩

mutual
theorem sSt (hy : Hy K A cl T) : ∀ (st : Stmt) (c : CEnv) (env : Env) (a : St), cSt T c st = some a → PS K A env c cl st a
  | .Expr e p, c, env, a, h => by
    simp only [cSt] at h
    split at h
    · cases h
    · rename_i hc
      obtain ⟨x, hx, rfl⟩ := Option.map_eq_some_iff.mp h
      exact ps_expr (by simpa using hc) (sE hy e c env x hx).1
  | .Assign ts v p, c, env, a, h => by
    simp only [cSt] at h
    split at h
    · rename_i x hx
      unfold cAsg at h
      split at h
      · obtain ⟨i, hi, rfl⟩ := Option.map_eq_some_iff.mp h
        exact s_asg hy hi hx
      · obtain ⟨is, hi, rfl⟩ := Option.map_eq_some_iff.mp h
        refine ps_mute fun ℓ σ f ℓ' σ' he hf => ?_
        simp only [exec] at he
        obtain ⟨w, σ1, _, he⟩ := bndY_inv he hf
        cases he
      · split at h
        · cases h; exact ps_mute fun ℓ σ f ℓ' σ' he hf => by simp [exec] at he
        · cases h
      · split at h
        · cases h; exact ps_mute fun ℓ σ f ℓ' σ' he hf => by simp [exec] at he
        · cases h
      · cases h
    · cases h
  | .Return v p, c, env, a, h => by
    cases v with
    | none => simp only [cSt] at h; cases h; exact ps_ret0
    | some e =>
      simp only [cSt] at h
      obtain ⟨x, hx, rfl⟩ := Option.map_eq_some_iff.mp h
      exact ps_ret (sE hy e c env x hx).1
  | .If t x y p, c, env, a, h => by
    simp only [cSt] at h
    split at h
    · rename_i a' b' d' h1 h2 h3
      cases h
      exact ps_if (sE hy t c env _ h1).2 (sSs hy x c env _ h2) (sSs hy y c env _ h3)
    · cases h
  | .For t i b o p, c, env, a, h => by
    simp only [cSt] at h
    split at h
    · rename_i x y z h1 h2 h3
      cases h
      obtain ⟨hI, hfs⟩ := s_iter (env := env) hy h2
      cases t with
      | Name n px =>
        simp only [cTg] at h1
        obtain ⟨k, hk, rfl⟩ := Option.map_eq_some_iff.mp h1
        exact ps_for hy.hh hfs hk hI (sSs hy b c env _ h3)
      | Tuple es k px =>
        simp only [cTg] at h1
        obtain ⟨k, hk, rfl⟩ := Option.map_eq_some_iff.mp h1
        exact ps_mute fun ℓ σ f ℓ' σ' he hf => by simp [exec] at he
      | _ => cases h1
    · cases h
  | .While t b o p, c, env, a, h => by
    simp only [cSt] at h
    split at h
    · rename_i x y h1 h2
      cases h
      exact ps_while (sE hy t c env _ h1).2 (sSs hy b c env _ h2)
    · cases h
  | .Break p, c, env, a, h => by simp only [cSt] at h; cases h; exact ps_brk
  | .Pass p, c, env, a, h => by simp only [cSt] at h; cases h; exact ps_pass
  | .Raise e k p, c, env, a, h => by
    simp only [cSt] at h
    unfold cRaise at h
    split at h
    · split at h
      · obtain ⟨t, _, rfl⟩ := Option.map_eq_some_iff.mp h
        exact ps_mute fun ℓ σ f ℓ' σ' he hf => by simp only [exec] at he; cases he; exact hf _ rfl
      · cases h
    · cases h
  | .Try b hs o f p, c, env, a, h => by
    simp only [cSt] at h
    split at h
    · cases h; exact ps_mute fun ℓ σ f ℓ' σ' he hf => by simp [exec] at he
    · cases h
  | .FunctionDef .., c, env, a, h => by simp [cSt] at h
  | .AsyncFunctionDef .., c, env, a, h => by simp [cSt] at h
  | .ClassDef .., c, env, a, h => by simp [cSt] at h
  | .Delete .., c, env, a, h => by simp [cSt] at h
  | .TypeAlias .., c, env, a, h => by simp [cSt] at h
  | .AugAssign .., c, env, a, h => by simp [cSt] at h
  | .AnnAssign .., c, env, a, h => by simp [cSt] at h
  | .AsyncFor .., c, env, a, h => by simp [cSt] at h
  | .With .., c, env, a, h => by simp [cSt] at h
  | .AsyncWith .., c, env, a, h => by simp [cSt] at h
  | .Match .., c, env, a, h => by simp [cSt] at h
  | .TryStar .., c, env, a, h => by simp [cSt] at h
  | .Assert .., c, env, a, h => by simp [cSt] at h
  | .Import .., c, env, a, h => by simp [cSt] at h
  | .ImportFrom .., c, env, a, h => by simp [cSt] at h
  | .Global .., c, env, a, h => by simp [cSt] at h
  | .Nonlocal .., c, env, a, h => by simp [cSt] at h
  | .Continue .., c, env, a, h => by simp [cSt] at h
theorem sSs (hy : Hy K A cl T) : ∀ (ss : List Stmt) (c : CEnv) (env : Env) (a : Ss), cSs T c ss = some a → PSs K A env c cl ss a
  | [], c, env, a, h => by simp only [cSs] at h; cases h; exact pss_nil
  | s :: r, c, env, a, h => by
    simp only [cSs] at h
    split at h
    · rename_i x y h1 h2
      cases h
      exact pss_cons (sSt hy s c env _ h1) (sSs hy r c env _ h2)
    · cases h
end
end
end Mini

/-! Calls of the text's own functions. -/
set_option autoImplicit false
namespace Mini
open PySem PyProof.Rows PySem.SeqAt

mutual
theorem RV.under {K : Kx} {ρ : List Addr} {h : Heap} : ∀ {v : V} {x : Value}, RV K ρ h v x → below ρ.length v = true
  | _, _, .none => rfl
  | _, _, .bool _ => rfl
  | _, _, .int _ _ => rfl
  | _, _, .str _ _ => rfl
  | _, _, .tup _ r _ => by simpa [Mini.below] using RVs.under r
  | _, _, .obj e => by simpa [Mini.below] using (List.getElem?_eq_some_iff.mp e).1
  | _, _, .ty _ => rfl
  | _, _, .frz _ _ _ => rfl
theorem RVs.under {K : Kx} {ρ : List Addr} {h : Heap} : ∀ {l : List V} {vs : List Value}, RVs K ρ h l vs → belows ρ.length l = true
  | _, _, .nil => rfl
  | _, _, .cons a r => by simp [Mini.belows, RV.under a, RVs.under r]
end

theorem belows_ints (n : Nat) : ∀ l : List Int, belows n (l.map V.int) = true
  | [] => rfl
  | _ :: r => by simp [Mini.belows, Mini.below, belows_ints n r]

theorem pre_get_lt {α : Type} {l l' : List α} (hp : l <+: l') {n : Nat} {a : α} (hn : n < l.length) (e : l'[n]? = some a) : l[n]? = some a := by
  obtain ⟨t, rfl⟩ := hp
  rwa [List.getElem?_append_left hn] at e

mutual
theorem RV.cut {K : Kx} {ρ ρ1 : List Addr} {h : Heap} (hp : ρ <+: ρ1) : ∀ {v : V} {x : Value}, RV K ρ1 h v x → below ρ.length v = true → RV K ρ h v x
  | _, _, .none, _ => .none
  | _, _, .bool b, _ => .bool b
  | _, _, .int i t, _ => .int i t
  | _, _, .str s t, _ => .str s t
  | _, _, .tup e r n, hb => .tup e (RVs.cut hp r (by simpa [Mini.below] using hb)) n
  | _, _, .obj e, hb => .obj (pre_get_lt hp (by simpa [Mini.below] using hb) e)
  | _, _, .ty t, _ => .ty t
  | _, _, .frz e r n, _ => .frz e (RVs.cut hp r (belows_ints _ _)) n
theorem RVs.cut {K : Kx} {ρ ρ1 : List Addr} {h : Heap} (hp : ρ <+: ρ1) : ∀ {l : List V} {vs : List Value}, RVs K ρ1 h l vs → belows ρ.length l = true → RVs K ρ h l vs
  | _, _, .nil, _ => .nil
  | _, _, .cons a r, hb => by
    simp only [Mini.belows, Bool.and_eq_true] at hb
    exact .cons (RV.cut hp a hb.1) (RVs.cut hp r hb.2)
end

/-- the objects behind a mark are forgotten -/
theorem HR.cut {K : Kx} {ρ ρ1 : List Addr} {σ σ1 : H} {h h1 : Heap} (hr : HR K ρ σ h) (hr1 : HR K ρ1 σ1 h1) (hp : ρ <+: ρ1) (ht : σ1.take σ.length = σ) : HR K ρ σ h1 := by
  refine ⟨hr1.keep, hr.len, hr.nd, hr.new, fun n o a h1 h2 => ?_⟩
  have hn := (List.getElem?_eq_some_iff.mp h1).1
  have h1' : σ1[n]? = some o := by
    rw [← ht, List.getElem?_take_of_lt hn] at h1; exact h1
  have ho := hr1.obj n o a h1' (pre_get hp h2)
  have ho0 := hr.obj n o a h1 h2
  cases o with
  | list l =>
    obtain ⟨vs0, n0, e0, r0, _⟩ := ho0
    obtain ⟨vs, n1, e1, r1, hl⟩ := ho
    exact ⟨vs, n1, e1, r1.cut hp r0.under, hl⟩
  | _ => exact ho.elim

structure FnAt (K : Kx) (T : Tabs) (f : Nat) (F : Fn) (o : Obj) (fd : FuncData) (body : List Stmt) (xs : List Str) : Prop where
  ho : K.h0.get? (K.fna f) = some o
  data : o.data = .func fd
  bodyE : fd.body = .stmts body
  clo : fd.closure = []
  kind : fd.scope.kind = .function
  co : fd.scope.isCoroutine = false
  gen : fd.scope.isGenerator = false
  nd : (fd.scope.names.map (·.1)).Nodup
  glob : fd.globals = mainGlobals
  blts : fd.builtins = builtinsNs
  code : K.h0.CodeRec fd.code fd.qualname
  bind : ∀ vals : List Value, vals.length = xs.length → bindArgs fd ⟨vals, []⟩ = pure (xs.zip vals)
  ps : xs.mapM (fun x => (slotsOf fd.scope.names).lookup x) = some F.ps
  comp : cSs T (fnC fd.scope) body = some F.body
  size : (ownOf fd.scope.names).length ≤ F.size

noncomputable def FnOK (K : Kx) (T : Tabs) (f : Nat) (F : Fn) : Prop := ∃ o fd body xs, FnAt K T f F o fd body xs

theorem slots_inv {names : List (Str × NameKind)} {x : Str} {i : Nat} (h : (slotsOf names).lookup x = some i) : i < (ownOf names).length ∧ ∃ k, (ownOf names)[i]? = some (x, k) := by
  have hm := mem_of_lookup h
  unfold slotsOf at hm
  obtain ⟨⟨⟨n, k⟩, j⟩, h1, h2⟩ := List.mem_map.mp hm
  cases h2
  obtain ⟨h3, h4⟩ := List.mem_zipIdx' h1
  exact ⟨h3, k, by rw [List.getElem?_eq_getElem h3, ← h4]⟩
theorem slots_inj {names : List (Str × NameKind)} {x y : Str} {i : Nat} (h : (slotsOf names).lookup x = some i) (h' : (slotsOf names).lookup y = some i) : x = y := by
  obtain ⟨_, k, e⟩ := slots_inv h
  obtain ⟨_, k', e'⟩ := slots_inv h'
  rw [e] at e'; cases e'; rfl
theorem slots_kind {names : List (Str × NameKind)} {x : Str} {i : Nat} (hn : (names.map (·.1)).Nodup) (h : (slotsOf names).lookup x = some i) : names.lookup x = some .local ∨ names.lookup x = some .cell := by
  obtain ⟨_, k, e⟩ := slots_inv h
  have hm := List.mem_of_getElem? e
  unfold ownOf at hm
  obtain ⟨h1, h2⟩ := List.mem_filter.mp hm
  simp only [Bool.or_eq_true, beq_iff_eq] at h2
  have := nodup_lookup hn h1
  rcases h2 with h2 | h2 <;> rw [h2] at this
  · exact .inl this
  · exact .inr this

theorem cells_mem {x : Str} {a : Addr} : ∀ {names : List (Str × NameKind)} {n : Nat} {acc : List (Str × Addr)}, (x, a) ∈ cellsFrom n names acc → (x, a) ∈ acc ∨ (x, NameKind.cell) ∈ names
  | [], _, _, h => .inl h
  | (y, k) :: r, n, acc, h => by
    unfold cellsFrom at h
    split at h
    · rename_i hk
      rcases cells_mem h with h | h
      · rcases List.mem_cons.mp h with e | h
        · cases e; right; rw [← beq_iff_eq.mp hk]; exact List.mem_cons_self
        · exact .inl h
      · exact .inr (List.mem_cons_of_mem _ h)
    · rcases cells_mem h with h | h
      · exact .inl h
      · exact .inr (List.mem_cons_of_mem _ h)
theorem cells_keys : ∀ {names : List (Str × NameKind)} {n : Nat} {acc : List (Str × Addr)}, (names.map (·.1)).Nodup → (acc.map (·.1)).Nodup → (∀ x ∈ acc.map (·.1), x ∉ names.map (·.1)) → ((cellsFrom n names acc).map (·.1)).Nodup
  | [], _, _, _, h, _ => h
  | (y, k) :: r, n, acc, hn, ha, hd => by
    rw [List.map_cons, List.nodup_cons] at hn
    unfold cellsFrom
    split
    · refine cells_keys hn.2 ?_ fun x hx => ?_
      · rw [List.map_cons, List.nodup_cons]
        exact ⟨fun hm => hd y hm (by simp), ha⟩
      · rw [List.map_cons] at hx
        rcases List.mem_cons.mp hx with rfl | hx
        · exact hn.1
        · exact fun hm => hd x hx (List.mem_cons_of_mem _ hm)
    · exact cells_keys hn.2 ha fun x hx hm => hd x hx (List.mem_cons_of_mem _ hm)
theorem cells_has : ∀ {names : List (Str × NameKind)} {n : Nat} {acc : List (Str × Addr)} {x : Str}, ((x, NameKind.cell) ∈ names ∨ x ∈ acc.map (·.1)) → x ∈ (cellsFrom n names acc).map (·.1)
  | [], _, _, x, h => by
    rcases h with h | h
    · cases h
    · exact h
  | (y, k) :: r, n, acc, x, h => by
    unfold cellsFrom
    split
    · rename_i hk
      refine cells_has ?_
      rcases h with h | h
      · rcases List.mem_cons.mp h with e | h
        · cases e; right; simp
        · exact .inl h
      · right; exact List.mem_cons_of_mem _ h
    · rename_i hk
      refine cells_has ?_
      rcases h with h | h
      · rcases List.mem_cons.mp h with e | h
        · cases e; simp at hk
        · exact .inl h
      · exact .inr h

section
variable {K : Kx} {A : Around} {T : Tabs}

/-- parameters -/
theorem start_inv {names : List (Str × NameKind)} {ρ : List Addr} {h : Heap} (kindOf : Str → Option NameKind) (hk : ∀ x, kindOf x = names.lookup x) (hnd : (names.map (·.1)).Nodup) :
    ∀ (xs : List Str) (is : List Nat) (vs : List V) (cvs : List Value) (ℓ0 ℓ : L) (m cm : Str → Option Value), xs.mapM (fun x => (slotsOf names).lookup x) = some is → setMany is vs ℓ0 = some ℓ → RVs K ρ h vs cvs →
      (∀ x (i : Nat) v, (slotsOf names).lookup x = some i → ℓ0[i]? = some (some v) → ∃ cv, (if names.lookup x = some .local then m x else cm x) = some cv ∧ RV K ρ h v cv) →
      xs.length = cvs.length ∧ ∀ x (i : Nat) v, (slotsOf names).lookup x = some i → ℓ[i]? = some (some v) → ∃ cv, (if names.lookup x = some .local then bindL kindOf (xs.zip cvs) m x else bindC kindOf (xs.zip cvs) cm x) = some cv ∧ RV K ρ h v cv
  | [], is, vs, cvs, ℓ0, ℓ, m, cm, h1, h2, h3, h4 => by
    simp only [List.mapM_nil] at h1
    cases h1
    cases vs with
    | nil => cases h3; cases h2; exact ⟨rfl, h4⟩
    | cons _ _ => cases h2
  | x :: xs, is, vs, cvs, ℓ0, ℓ, m, cm, h1, h2, h3, h4 => by
    rw [List.mapM_cons] at h1
    cases hs : (slotsOf names).lookup x with
    | none => rw [hs] at h1; cases h1
    | some i =>
      rw [hs] at h1
      cases hr : xs.mapM (fun x => (slotsOf names).lookup x) with
      | none => rw [hr] at h1; cases h1
      | some is' =>
        rw [hr] at h1; cases h1
        cases h3 with
        | nil => cases h2
        | cons r rs =>
          rename_i v l cx cvs'
          simp only [setMany] at h2
          obtain ⟨ℓ1, h5, h6⟩ := Option.bind_eq_some_iff.mp h2
          obtain ⟨hi, hset⟩ := lookup_set h5
          have hkx := slots_kind hnd hs
          have ih := start_inv kindOf hk hnd xs is' l cvs' ℓ1 ℓ (if kindOf x = some .local then fun y => if y = x then some cx else m y else m) (if kindOf x = some .local then cm else fun y => if y = x then some cx else cm y) hr h6 rs ?_
          · refine ⟨by simp [ih.1], fun y j w g1 g2 => ?_⟩
            have := ih.2 y j w g1 g2
            simpa only [List.zip_cons_cons, bindL, bindC] using this
          · intro y j w g1 g2
            rw [hset] at g2
            by_cases hj : j = i
            · subst hj
              rw [if_pos rfl] at g2; cases g2
              obtain rfl := slots_inj g1 hs
              refine ⟨cx, ?_, r⟩
              rcases hkx with hkx | hkx
              · rw [if_pos hkx, if_pos (by rw [hk]; exact hkx)]; simp
              · have hne : ¬ names.lookup y = some .local := by rw [hkx]; decide
                rw [if_neg hne, if_neg (by rw [hk]; exact hne)]; simp
            · rw [if_neg hj] at g2
              have hyx : y ≠ x := by rintro rfl; rw [g1] at hs; cases hs; exact hj rfl
              obtain ⟨cw, e1, e2⟩ := h4 y j w g1 g2
              refine ⟨cw, ?_, e2⟩
              rw [← e1]
              split
              · split
                · simp [hyx]
                · rfl
              · split
                · rfl
                · simp [hyx]

/-- slots beyond those of the names are empty -/
theorem start_free {n : Nat} : ∀ (is : List Nat) (vs : List V) (ℓ0 ℓ : L), setMany is vs ℓ0 = some ℓ → (∀ i ∈ is, i < n) → (∀ (i : Nat) v, n ≤ i → ℓ0[i]? ≠ some (some v)) → ∀ (i : Nat) v, n ≤ i → ℓ[i]? ≠ some (some v)
  | [], [], ℓ0, ℓ, h, _, h0 => by cases h; exact h0
  | [], _ :: _, ℓ0, ℓ, h, _, _ => by cases h
  | _ :: _, [], ℓ0, ℓ, h, _, _ => by cases h
  | i :: is, v :: vs, ℓ0, ℓ, h, hlt, h0 => by
    simp only [setMany] at h
    obtain ⟨ℓ1, h5, h6⟩ := Option.bind_eq_some_iff.mp h
    obtain ⟨_, hset⟩ := lookup_set h5
    refine start_free is vs ℓ1 ℓ h6 (fun j hj => hlt j (List.mem_cons_of_mem _ hj)) fun j w hj => ?_
    have := hlt i List.mem_cons_self
    rw [hset, if_neg (by omega)]
    exact h0 j w hj

theorem mapM_mem {xs : List Str} {names : List (Str × NameKind)} : ∀ {is : List Nat}, xs.mapM (fun x => (slotsOf names).lookup x) = some is → ∀ i ∈ is, ∃ x ∈ xs, (slotsOf names).lookup x = some i := by
  induction xs with
  | nil => intro is h; simp only [List.mapM_nil] at h; cases h; intro i hi; cases hi
  | cons x xs ih =>
    intro is h
    rw [List.mapM_cons] at h
    cases hs : (slotsOf names).lookup x with
    | none => rw [hs] at h; cases h
    | some i =>
      rw [hs] at h
      cases hr : xs.mapM (fun x => (slotsOf names).lookup x) with
      | none => rw [hr] at h; cases h
      | some is' =>
        rw [hr] at h; cases h
        intro j hj
        rcases List.mem_cons.mp hj with rfl | hj
        · exact ⟨x, List.mem_cons_self, hs⟩
        · obtain ⟨y, hy, e⟩ := ih hr j hj; exact ⟨y, List.mem_cons_of_mem _ hy, e⟩
theorem mapM_all {names : List (Str × NameKind)} : ∀ {xs : List Str} {is : List Nat}, xs.mapM (fun x => (slotsOf names).lookup x) = some is → ∀ x ∈ xs, ∃ i, (slotsOf names).lookup x = some i
  | [], _, _, x, hx => by cases hx
  | y :: xs, is, h, x, hx => by
    rw [List.mapM_cons] at h
    cases hs : (slotsOf names).lookup y with
    | none => rw [hs] at h; cases h
    | some i =>
      rw [hs] at h
      cases hr : xs.mapM (fun x => (slotsOf names).lookup x) with
      | none => rw [hr] at h; cases h
      | some is' =>
        rcases List.mem_cons.mp hx with rfl | hx
        · exact ⟨i, hs⟩
        · exact mapM_all hr x hx
end
end Mini

/-! Calls: the frame at its start, the way back. -/
set_option autoImplicit false
namespace Mini
open PySem PyProof.Rows PySem.SeqAt

section
variable {K : Kx} {A : Around} {T : Tabs}

theorem entry_FO {f : Nat} {F : Fn} {o : Obj} {fd : FuncData} {body : List Stmt} {xs : List Str} (x : FnAt K T f F o fd body xs) {as : List V} {ℓ : L} (hst : startL F as = some ℓ) {ρ : List Addr} {σ : H} {s s1 : Shared} (hr : HR K ρ σ s.heap) {cvs : List Value} (rvs : RVs K ρ s.heap as cvs) {a : Addr}
    (hin : InCallC s (callEnvC fd s.heap.objs.size a).locals (bindL (callEnvC fd s.heap.objs.size a).kindOf (xs.zip cvs) fun _ => none) (callEnvC fd s.heap.objs.size a).cells
        (bindC (callEnvC fd s.heap.objs.size a).kindOf (xs.zip cvs) fun _ => none) s1) : FO K (callEnvC fd s.heap.objs.size a) (fnC fd.scope) ℓ ρ s1.heap := by
  obtain ⟨f1, f2⟩ := fresh_off hr
  have hk : ∀ b o, s.heap.get? b = some o → s1.heap.get? b = some o := hin.toInCall.keep
  have hnone : ∀ b : Addr, @LE.le Nat _ s.heap.objs.size b → b ∉ ρ ∧ K.h0.get? b = none := by
    intro b hb
    have h0 : s.heap.get? b = none := by
      cases e : s.heap.get? b with
      | none => rfl
      | some o => have := Heap.lt_size e; exact absurd hb (Nat.not_le.mpr this)
    refine ⟨fun hm => ?_, ?_⟩
    · obtain ⟨ob, e, _⟩ := hr.at_ hm; rw [h0] at e; cases e
    · cases e : K.h0.get? b with
      | none => rfl
      | some o => rw [hr.keep _ _ e] at h0; cases h0
  have rv1 : RVs K ρ s1.heap as cvs := rvs.mono (List.prefix_refl _) fun b vs e => hk _ _ e
  obtain ⟨hlen, hval⟩ := start_inv (K := K) (names := fd.scope.names) (ρ := ρ) (h := s1.heap) (callEnvC fd s.heap.objs.size a).kindOf (fun _ => rfl) x.nd xs F.ps as cvs (List.replicate F.size .none) ℓ (fun _ => none) (fun _ => none) x.ps hst rv1 (fun y i v _ h => by
    rw [List.getElem?_replicate] at h; split at h <;> cases h)
  have hcells : (callEnvC fd s.heap.objs.size a).cells = cellsFrom (s.heap.objs.size + 1) fd.scope.names [] := rfl
  have hnd : (((callEnvC fd s.heap.objs.size a).cells).map (·.1)).Nodup := by rw [hcells]; exact cells_keys x.nd (by simp) (by simp)
  have hlook : ∀ y b, (y, b) ∈ (callEnvC fd s.heap.objs.size a).cells → (callEnvC fd s.heap.objs.size a).cells.lookup y = some b := fun y b h => nodup_lookup hnd h
  refine ⟨x.kind, rfl, x.glob, x.blts, ⟨_, hin.toInCall.ns, fun y i v h1 h2 h3 => ?_⟩, fun y hy => ?_, fun y z i => slots_inj, fun y z b h1 h2 => name_of_addr hin.apart h1 h2, ?_, ?_, fun y i h => (slots_inv h).1, fun y b hb => ?_⟩
  · have := hval y i v h2 h3
    have h1' : fd.scope.names.lookup y = some .local := h1
    rw [if_pos h1'] at this
    exact this
  · have hy' : fd.scope.names.lookup y = some .cell := hy
    have hm := cells_has (n := s.heap.objs.size + 1) (acc := []) (.inl (mem_of_lookup hy'))
    obtain ⟨⟨y', b⟩, hb, rfl⟩ := List.mem_map.mp hm
    refine ⟨b, _, hlook _ b hb, hin.cell _ b (hlook _ b hb), fun i v h2 h3 => ?_⟩
    have := hval _ i v h2 h3
    rw [if_neg (by rw [hy']; decide)] at this
    exact this
  · exact hnone _ (Nat.le_refl _)
  · refine start_free F.ps as _ ℓ hst (fun i hi => ?_) fun i v _ h => by
      rw [List.getElem?_replicate] at h; split at h <;> cases h
    obtain ⟨y, _, e⟩ := mapM_mem x.ps i hi
    exact (slots_inv e).1
  · have habove : @LT.lt Nat _ s.heap.objs.size b := hin.above y b hb
    obtain ⟨h1, h2⟩ := hnone b (Nat.le_of_lt habove)
    obtain ⟨o', e', hd'⟩ := hin.cell y b (hlook y b hb)
    exact ⟨h1, h2, Nat.ne_of_gt habove, o', e', fun vs hv => by rw [hv] at hd'; cases hd'⟩

theorem gc_inv {m : Mode} {σ : H} {x : X V} {v : V} {σ' : H} (h : gc m σ x = some (.ok v, σ')) : ∃ v1 σ1, x = some (.ok v1, σ1) ∧
    ((v = v1 ∧ σ' = σ1) ∨ (σ1.take σ.length = σ ∧ below σ.length v1 = true ∧ v = v1 ∧ σ' = σ) ∨ (σ1.take σ.length = σ ∧ ∃ n l, v1 = .obj n ∧ σ.length ≤ n ∧ σ1[n]? = some (.list l) ∧ belows σ.length l = true ∧ v = .obj σ.length ∧ σ' = σ ++ [.list l])) := by
  cases m with
  | raw => exact ⟨v, σ', h, .inl ⟨rfl, rfl⟩⟩
  | pure =>
    simp only [gc] at h
    split at h
    · rename_i v1 σ1
      split at h
      · rename_i hc; cases h; exact ⟨_, _, rfl, .inr (.inl ⟨hc.1, hc.2, rfl, rfl⟩)⟩
      · cases h
    · split at h <;> cases h
    · cases h
  | fresh =>
    simp only [gc] at h
    split at h
    · rename_i n σ1
      split at h
      · rename_i ht
        split at h
        · rename_i hn; cases h; exact ⟨_, _, rfl, .inr (.inl ⟨ht, by simpa [below] using hn, rfl, rfl⟩)⟩
        · rename_i hn
          split at h
          · rename_i l hl
            split at h
            · rename_i hb; cases h; exact ⟨_, _, rfl, .inr (.inr ⟨ht, n, l, rfl, Nat.le_of_not_lt hn, hl, hb, rfl, rfl⟩)⟩
            · cases h
          · cases h
      · cases h
    · cases h

/-- the way back to the caller -/
theorem gc_back {ρ ρ1 : List Addr} {σ σ1 : H} {s s1 : Shared} {v1 : V} {cv : Value} (hr : HR K ρ σ s.heap) (hr1 : HR K ρ1 σ1 s1.heap) (st : Step ρ s ρ1 s1) (rv : RV K ρ1 s1.heap v1 cv) {m : Mode} {x : X V} {v : V} {σ' : H} (hx : x = some (.ok v1, σ1)) (h : gc m σ x = some (.ok v, σ')) :
    ∃ ρ', Good K ρ s ρ' σ' s1 ∧ RV K ρ' s1.heap v cv := by
  obtain ⟨v2, σ2, e, h⟩ := gc_inv h
  rw [hx] at e; cases e
  rcases h with ⟨rfl, rfl⟩ | ⟨ht, hb, rfl, rfl⟩ | ⟨ht, n, l, rfl, hn, hl, hb, rfl, rfl⟩
  · exact ⟨ρ1, ⟨hr1, st⟩, rv⟩
  · refine ⟨ρ, ⟨hr.cut hr1 st.pre ht, ⟨List.prefix_refl _, st.fr, fun _ h => .inl h, st.gens, st.os⟩⟩, rv.cut st.pre (by rw [hr.len]; exact hb)⟩
  · cases rv with
    | obj ha =>
      rename_i a
      obtain ⟨vs, k, e, r, hle⟩ := hr1.obj n _ a hl ha
      have hcut := hr.cut hr1 st.pre ht
      have haρ : a ∉ ρ := fun hm => by
        obtain ⟨j, hj, e'⟩ := List.getElem_of_mem hm
        have h2 : ρ1[j]? = some a := pre_get st.pre (by rw [List.getElem?_eq_getElem hj, e'])
        have := (List.getElem?_inj (List.getElem?_eq_some_iff.mp h2).1 hr1.nd).mp (h2.trans ha.symm)
        rw [hr.len] at hj; omega
      refine ⟨ρ ++ [a], ⟨⟨hr1.keep, by simp [hr.len], ?_, fun b hb' => ?_, fun j o b h1 h2 => ?_⟩, ⟨List.prefix_append _ _, st.fr, fun b hb' => ?_, st.gens, st.os⟩⟩, .obj ?_⟩
      · rw [List.nodup_append]; exact ⟨hr.nd, by simp, fun b hb' z hz e => by simp at hz; exact haρ (hz ▸ e ▸ hb')⟩
      · rcases List.mem_append.mp hb' with h | h
        · exact hr.new b h
        · rw [List.mem_singleton.mp h]; exact hr1.new a (List.mem_of_getElem? ha)
      · by_cases hlt : j < σ.length
        · rw [List.getElem?_append_left hlt] at h1
          rw [List.getElem?_append_left (by rw [hr.len]; exact hlt)] at h2
          exact (hcut.obj j o b h1 h2).mono (List.prefix_append _ _) fun _ _ e => e
        · have hj' : j = σ.length := by have := (List.getElem?_eq_some_iff.mp h1).1; simp at this; omega
          subst hj'
          rw [List.getElem?_append_right (Nat.le_refl _)] at h1
          rw [List.getElem?_append_right (by rw [hr.len]; exact Nat.le_refl _)] at h2
          simp [hr.len] at h1 h2
          rw [← h1, ← h2]
          exact ⟨vs, k, e, (r.cut st.pre (by rw [hr.len]; exact hb)).mono (List.prefix_append _ _) (fun _ _ e => e), hle⟩
      · rcases List.mem_append.mp hb' with h | h
        · exact .inl h
        · rw [List.mem_singleton.mp h]
          rcases st.fresh a (List.mem_of_getElem? ha) with h | h
          · exact .inl h
          · exact .inr h
      · rw [List.getElem?_append_right (by rw [hr.len]; exact Nat.le_refl _), hr.len]; simp

theorem call_sound {pg : Pg} (G : GK K T) (ty : TyOK K) (plain : T.cls = [] ∧ T.meths = [] ∧ T.attrs = []) (hfn : ∀ f F, pg.fn f = some F → FnOK K T f F) (nl : K.h0.NoLimit) (hs : (∃ x, T.blts.lookup x = some .sorted) → ∀ A, Rm 0 A → SortOK K A) :
    ∀ (d : Nat) (A : Around), Rm d A → CallOK K A ⟨pg, callF pg d⟩
  | 0, A, _ => fun f vs σ v σ' h => by cases h
  | d + 1, A, rm => by
    intro f vs σ v σ' he ρ s cvs hr rvs
    simp only [callF] at he
    split at he
    · cases he
    rename_i F hF
    split at he
    · cases he
    rename_i ℓ hst
    obtain ⟨o, fd, body, xs, x⟩ := hfn f F hF
    obtain ⟨v1, σ1, hret, _⟩ := gc_inv he
    have hlen : cvs.length = xs.length := by
      have := (start_inv (K := K) (ρ := ρ) (h := s.heap) (fun y => fd.scope.names.lookup y) (fun _ => rfl) x.nd xs F.ps vs cvs (List.replicate F.size .none) ℓ (fun _ => none) (fun _ => none) x.ps hst rvs (fun y i v _ h => by
        rw [List.getElem?_replicate] at h; split at h <;> cases h)).1
      exact this.symm
    have hcode : K.h0.CodeRec fd.code fd.qualname := x.code
    refine wpAny_call (codeAny_call_cells (by have := rm.depth; omega) (hr.keep _ _ x.ho) x.data (nl.keeps hr.keep) (hcode.keeps hr.keep) x.bodyE (x.bind cvs hlen) x.clo (fun y hy => ?_) (fun s1 hin => ?_) x.co x.gen x.kind)
    · have hyx : y.1 ∈ xs := (List.of_mem_zip (a := y.1) (b := y.2) hy).1
      obtain ⟨i, hi⟩ := mapM_all x.ps _ hyx
      rcases slots_kind x.nd hi with h | h
      · exact .inl h
      · right
        refine ⟨h, ?_⟩
        have hm := cells_has (n := s.heap.objs.size + 1) (acc := []) (.inl (mem_of_lookup h))
        obtain ⟨⟨y', b⟩, hb, e⟩ := List.mem_map.mp hm
        have hnd : ((cellsFrom (s.heap.objs.size + 1) fd.scope.names []).map (·.1)).Nodup := cells_keys x.nd (by simp) (by simp)
        have hl := nodup_lookup hnd hb
        have e' : y' = y.1 := e
        rw [← e', hl]; rfl
    · have fo := entry_FO x hst hr rvs hin
      have rm' := rm.deeper (callEnvC fd s.heap.objs.size (K.fna f))
      have hyy : Hy K (A.deeper (callEnvC fd s.heap.objs.size (K.fna f))) ⟨pg, callF pg d⟩ T := ⟨G, ty, rm'.handled, by have := rm'.units; omega, call_sound G ty plain hfn nl hs d _ rm', fun hx => hs hx _ ⟨rm'.handled, by have := rm'.depth; omega, by have := rm'.units; omega⟩, plain⟩
      obtain ⟨h1, tk1, es1⟩ := hin.toInCall.same
      have hr1 : HR K ρ σ s1.heap := hr.grow hin.toInCall.keep
      have st0 : Step ρ s ρ s1 := ⟨List.prefix_refl _, fun b o e _ => hin.toInCall.keep b o e, fun _ h => .inl h, by rw [es1], by rw [es1]⟩
      cases hbody : execs ⟨pg, callF pg d⟩ F.body ℓ σ with
      | none => rw [hbody] at hret; cases hret
      | some y =>
        obtain ⟨fl, ℓ2, σ2⟩ := y
        rw [hbody] at hret
        have hnx : NX fl := by rintro k rfl; cases hret
        have hnew : ∀ b ∈ frameX (callEnvC fd s.heap.objs.size (K.fna f)), s.heap.get? b = none := by
          intro b hb
          have hge : @LE.le Nat _ s.heap.objs.size b := by
            rcases mem_frameX hb with rfl | ⟨y, hy⟩
            · exact Nat.le_refl _
            · exact Nat.le_of_lt (hin.above y b hy)
          cases e : s.heap.get? b with
          | none => rfl
          | some o => have := Heap.lt_size e; exact absurd hge (Nat.not_le.mpr this)
        refine wpAny_mono (sSs hyy body (fnC fd.scope) _ F.body x.comp ℓ σ fl ℓ2 σ2 hbody hnx ρ s1 hr1 fo) (fun cf s2 hq => ?_) fun _ _ f => f.elim
        obtain ⟨ρ2, hr2, st2, fo2, frr⟩ := hq
        have st : Step ρ s ρ2 s2 := by
          refine ⟨st2.pre, fun b o e hb => st2.fr b o (hin.toInCall.keep b o e) hb fun hX => ?_, fun b hb => ?_, st2.gens.trans st0.gens, st2.os.trans st0.os⟩
          · rw [hnew b hX] at e; cases e
          · rcases st2.fresh b hb with h | h
            · exact .inl h
            · right
              cases e : s.heap.get? b with
              | none => rfl
              | some o => rw [hin.toInCall.keep b o e] at h; cases h
        rw [hbody] at he
        cases fl with
        | next =>
          cases cf with
          | next => exact gc_back hr hr2 st .none rfl he
          | _ => exact frr.elim
        | brk => cases hret
        | ret w =>
          cases cf with
          | ret cw => exact gc_back hr hr2 st frr rfl he
          | _ => exact frr.elim
        | exc k => exact absurd rfl (hnx k)
end
end Mini

/-! From the top to the small language. -/
set_option autoImplicit false
namespace Mini
open PySem PyProof.Rows PySem.SeqAt PySem.Calls

theorem fm_congr {α β : Type} {f g : α → Option β} : ∀ {l : List α}, (∀ x ∈ l, f x = g x) → l.filterMap f = l.filterMap g
  | [], _ => rfl
  | x :: l, h => by rw [List.filterMap_cons, List.filterMap_cons, h x List.mem_cons_self, fm_congr fun y hy => h y (List.mem_cons_of_mem _ hy)]

theorem zip_lookup : ∀ {xs : List Str} {vals : List Value}, xs.Nodup → vals.length = xs.length → xs.filterMap (fun n => ((xs.zip vals).lookup n).map (n, ·)) = xs.zip vals
  | [], [], _, _ => rfl
  | [], _ :: _, _, h => by cases h
  | _ :: _, [], _, h => by cases h
  | x :: xs, v :: vs, hn, h => by
    rw [List.nodup_cons] at hn
    have ih := zip_lookup hn.2 (by simpa using h)
    rw [List.zip_cons_cons, List.filterMap_cons]
    have e1 : ((x, v) :: xs.zip vs).lookup x = some v := by simp [List.lookup_cons]
    rw [e1]
    simp only [Option.map_some]
    congr 1
    rw [← ih]
    refine fm_congr fun y hy => ?_
    have hne : (y == x) = false := by simp; rintro rfl; exact hn.1 hy
    rw [List.lookup_cons, hne]
    simp only
    rw [ih]

theorem zip_all : ∀ {xs : List Str} {vals : List Value}, vals.length = xs.length → ∀ x ∈ xs, ((xs.zip vals).lookup x).isNone = false
  | [], _, _, x, hx => by cases hx
  | _ :: _, [], h, _, _ => by cases h
  | y :: xs, v :: vs, h, x, hx => by
    rw [List.zip_cons_cons, List.lookup_cons]
    cases hb : x == y with
    | true => rfl
    | false =>
      rcases List.mem_cons.mp hx with rfl | hx
      · simp at hb
      · exact zip_all (by simpa using h) x hx

noncomputable def plainParams (p : Arguments) : Bool := p.posonlyargs.isEmpty && p.kwonlyargs.isEmpty && p.vararg.isNone && p.kwarg.isNone && decide (p.args.map (·.arg)).Nodup

theorem bind_plain {name : Str} {p : Arguments} {body : List Stmt} {scope : Scope} {pm code doc : Value} (h : plainParams p = true) (vals : List Value) (hl : vals.length = (p.args.map (·.arg)).length) :
    bindArgs (docDef name p body scope pm code doc) ⟨vals, []⟩ = pure ((p.args.map (·.arg)).zip vals) := by
  obtain ⟨po, as, va, kwo, kd, kw, df⟩ := p
  simp only [plainParams, Bool.and_eq_true, List.isEmpty_iff, Option.isNone_iff_eq_none, decide_eq_true_eq] at h
  obtain ⟨⟨⟨⟨rfl, rfl⟩, rfl⟩, rfl⟩, hn⟩ := h
  simp only at hl hn
  have hm : ((as.map (·.arg)).take ((as.map (·.arg)).length)).filter (fun n => (((as.map (·.arg)).zip vals).lookup n).isNone) = [] := by
    rw [List.filter_eq_nil_iff]
    intro x hx
    rw [List.take_length] at hx
    simp [zip_all hl x hx]
  have hz := zip_lookup hn hl
  have hlen : ¬ vals.length > (as.map (·.arg)).length := by omega
  unfold bindArgs
  simp only [docDef, List.map_nil, List.nil_append, List.append_nil, List.forIn_nil, pure_bind, seqItems?, notAStandIn, Option.getD_none]
  simp [hlen]
  rw [if_neg (by rw [List.length_map] at hl; omega), if_neg (by simp only [List.drop_nil, List.length_nil, Nat.sub_zero]; rw [hm]; simp)]
  congr 1
  rw [← List.filterMap_map]
  exact hz
end Mini

/-! The top's facts. -/
set_option autoImplicit false
namespace Mini
open PySem PyProof.Rows PySem.SeqAt PySem.Calls

noncomputable def fnNo (x : Str) : Option Nat := fnNames.lookup x
noncomputable def fnName (n : Nat) : Option Str := (fnNames.find? (fun p => p.2 == n)).map (·.1)

noncomputable def tabs1 (bl : List (Str × Blt)) (ds : List DefRec) : Tabs := ⟨ds.filterMap (fun d => (fnNo d.name).map (d.name, ·)), tyNames, bl, [], [], [], excNames⟩
noncomputable def fnAt (bl : List (Str × Blt)) (md : Nat → Mode) (ds : List DefRec) (n : Nat) : Option Fn := match ds.find? (fun d => fnNo d.name == some n) with
  | some d => cFn (tabs1 bl ds) (md n) 8 d.params d.scope d.body
  | none => none
noncomputable def pgOf (bl : List (Str × Blt)) (md : Nat → Mode) (ds : List DefRec) : Pg := ⟨fnAt bl md ds, fun _ _ => none, fun _ => none⟩

noncomputable def goodDef (d : DefRec) : Bool := plainParams d.params && d.scope.kind == .function && !d.scope.isCoroutine && !d.scope.isGenerator && decide (d.scope.names.map (·.1)).Nodup && (match fnNo d.name with
  | some n => fnName n == some d.name
  | none => false)

noncomputable def fnaOf (mg : Str → Option Value) (n : Nat) : Addr := match fnName n with
  | some x => (match mg x with
    | some (.ref a) => a
    | _ => 0)
  | none => 0
noncomputable def tyOf : Nat → Value
  | 0 => .type "int"
  | 1 => .type "bool"
  | 2 => .type "tuple"
  | 3 => .type "list"
  | 4 => .type "ValueError"
  | _ => .none

noncomputable def freeChk (p : Program) (loose : List Str) : Bool := (tyNames.map (·.1) ++ bltNames.map (·.1) ++ [sRange]).all fun x =>
  !startupNames.contains x && !loose.contains x && !((recsOf p).map (·.name)).contains x && !((litsOf p).map (·.1)).contains x && !((clssOf p loose).map (·.name)).contains x && !(x == ("__name__" : Str))

theorem boot_ty {x : Str} {t : Nat} (h : tyNames.lookup x = some t) : bootBuiltins x = some (tyOf t) := by
  have hm := mem_of_lookup h
  simp only [tyNames, List.mem_cons, List.not_mem_nil, or_false, Prod.mk.injEq] at hm
  rcases hm with ⟨rfl, rfl⟩ | ⟨rfl, rfl⟩ | ⟨rfl, rfl⟩ | ⟨rfl, rfl⟩ | ⟨rfl, rfl⟩ <;> rfl
theorem boot_blt {x : Str} {b : Blt} (h : bltNames.lookup x = some b) : bootBuiltins x = some (bltVal b) := by
  have hm := mem_of_lookup h
  simp only [bltNames, List.mem_cons, List.not_mem_nil, or_false, Prod.mk.injEq] at hm
  rcases hm with ⟨rfl, rfl⟩ | ⟨rfl, rfl⟩ | ⟨rfl, rfl⟩ | ⟨rfl, rfl⟩ | ⟨rfl, rfl⟩ | ⟨rfl, rfl⟩ | ⟨rfl, rfl⟩ | ⟨rfl, rfl⟩ <;> rfl
theorem boot_range : bootBuiltins sRange = some (.type "range") := rfl

section
variable {p : Program} {loose : List Str} {mean : ExcName → Option Value} {mg mb : Str → Option Value} {h : Heap}

theorem top_free (T0 : Top p loose mean mg mb h) (hf : freeChk p loose = true) {x : Str} (hx : x ∈ tyNames.map (·.1) ++ bltNames.map (·.1) ++ [sRange]) : mg x = none ∧ mb x = bootBuiltins x := by
  have := List.all_eq_true.mp hf x hx
  simp only [Bool.and_eq_true, Bool.not_eq_true', List.contains_eq_mem, decide_eq_false_iff_not, beq_eq_false_iff_ne] at this
  obtain ⟨⟨⟨⟨⟨h1, h2⟩, h3⟩, h4⟩, h5⟩, h6⟩ := this
  exact ⟨T0.free x h1 h2 h3 h4 h5, T0.builtins x h6⟩

theorem lookup_mem {α : Type} {l : List (Str × α)} {x : Str} {a : α} (h : l.lookup x = some a) : x ∈ l.map (·.1) := List.mem_map.mpr ⟨_, mem_of_lookup h, rfl⟩

theorem fna_of {x : Str} {n : Nat} {a : Addr} (h1 : fnName n = some x) (h2 : mg x = some (.ref a)) : fnaOf mg n = a := by unfold fnaOf; rw [h1]; simp only [h2]

theorem top_GK {bl : List (Str × Blt)} (hbl : ∀ x b, bl.lookup x = some b → bltNames.lookup x = some b) (T0 : Top p loose mean mg mb h) (prog : Program) (w : World) (hf : freeChk p loose = true) (hg : (recsOf p).all goodDef = true) : GK ⟨prog, w, h, tyOf, fnaOf mg⟩ (tabs1 bl (recsOf p)) := by
  refine ⟨mg, mb, T0.g, T0.b, fun x t hx => ?_, fun x n hx => ?_, fun x b hx => ?_, ?_⟩
  · right
    have := top_free T0 hf (x := x) (List.mem_append_left _ (List.mem_append_left _ (lookup_mem hx)))
    exact ⟨this.1, by rw [this.2, boot_ty hx]⟩
  · have hm := mem_of_lookup hx
    obtain ⟨d, hd, e⟩ := List.mem_filterMap.mp hm
    obtain ⟨n', hn, e⟩ := Option.map_eq_some_iff.mp e
    cases e
    have hgd := List.all_eq_true.mp hg d hd
    simp only [goodDef, hn, Bool.and_eq_true, beq_iff_eq] at hgd
    obtain ⟨a, o, pm, code, doc, h1, h2, h3, h4⟩ := T0.fn d hd
    show mg d.name = some (.ref (fnaOf mg n)) ∧ ∃ o fd, h.get? (fnaOf mg n) = some o ∧ o.data = .func fd
    rw [fna_of hgd.2 h1]
    exact ⟨h1, o, _, h2, h3⟩
  · have := top_free T0 hf (x := x) (List.mem_append_left _ (List.mem_append_right _ (lookup_mem (hbl x b hx))))
    exact ⟨this.1, by rw [this.2, boot_blt (hbl x b hx)]⟩
  · have := top_free T0 hf (x := sRange) (List.mem_append_right _ List.mem_cons_self)
    exact ⟨this.1, by rw [this.2, boot_range]⟩

theorem cFn_inv {T : Tabs} {m : Mode} {e : Nat} {as : Arguments} {sc : Scope} {body : List Stmt} {F : Fn} (h : cFn T m e as sc body = some F) :
    (as.args.map (·.arg)).mapM (fun x => (slotsOf sc.names).lookup x) = some F.ps ∧ cSs T (fnC sc) body = some F.body ∧ F.size = (ownOf sc.names).length + e := by
  unfold cFn at h
  split at h
  · rename_i ps b h1 h2; cases h; exact ⟨h1, h2, rfl⟩
  · cases h

theorem top_fn {bl : List (Str × Blt)} (T0 : Top p loose mean mg mb h) (prog : Program) (w : World) (hg : (recsOf p).all goodDef = true) {md : Nat → Mode} {n : Nat} {F : Fn} (hF : fnAt bl md (recsOf p) n = some F) : FnOK ⟨prog, w, h, tyOf, fnaOf mg⟩ (tabs1 bl (recsOf p)) n F := by
  unfold fnAt at hF
  split at hF
  · rename_i d hd
    have hmem := List.mem_of_find?_eq_some hd
    have hnm : fnNo d.name = some n := by have := List.find?_some hd; simpa using this
    have hgd := List.all_eq_true.mp hg d hmem
    simp only [goodDef, hnm, Bool.and_eq_true, beq_iff_eq, Bool.not_eq_true', decide_eq_true_eq] at hgd
    obtain ⟨⟨⟨⟨⟨g1, g2⟩, g3⟩, g4⟩, g5⟩, g6⟩ := hgd
    obtain ⟨a, o, pm, code, doc, h1, h2, h3, h4⟩ := T0.fn d hmem
    obtain ⟨c1, c2, c3⟩ := cFn_inv hF
    have hat : FnAt ⟨prog, w, h, tyOf, fnaOf mg⟩ (tabs1 bl (recsOf p)) n F o (docDef d.name d.params d.body d.scope pm code doc) d.body (d.params.args.map (·.arg)) := ⟨?_, h3, rfl, rfl, g2, g3, g4, g5, rfl, rfl, h4, fun vals hl => bind_plain g1 vals hl, c1, c2, Nat.le_trans (Nat.le_add_right _ 8) (Nat.le_of_eq c3.symm)⟩
    · exact ⟨o, _, _, _, hat⟩
    show h.get? (fnaOf mg n) = some o
    rw [fna_of g6 h1]; exact h2
  · cases hF

theorem ty_ok (prog : Program) (w : World) (h : Heap) (f : Nat → Addr) : TyOK ⟨prog, w, h, tyOf, f⟩ := ⟨rfl, rfl, rfl, rfl⟩

/-- the whole: the evaluator's word for a law's call is the model's -/
theorem law_end {bl : List (Str × Blt)} (hbl : ∀ x b, bl.lookup x = some b → bltNames.lookup x = some b) (T0 : Top p loose mean mg mb h) (prog : Program) (w : World) (hf : freeChk p loose = true) (hg : (recsOf p).all goodDef = true) {md : Nat → Mode} {d n : Nat} {A : Around} (rm : Rm d A) (hs : (∃ x, bl.lookup x = some .sorted) → ∀ A, Rm 0 A → SortOK ⟨prog, w, h, tyOf, fnaOf mg⟩ A)
    {s : Shared} (es : s.heap = h) {l : List Int} {vs : List Value} {ax : Addr} (hx : h.get? ax = some (listObj vs 0)) (hv : RVs ⟨prog, w, h, tyOf, fnaOf mg⟩ [] h (l.map V.int) vs) (hl : l.length ≤ lenMax) {σ' : H} {x : Str} {fa : Addr} (hn : fnName n = some x) (hm : mg x = some (.ref fa))
    (hc : callF (pgOf bl md (recsOf p)) d n [.frz l] [] = some (.ok (.bool true), σ')) {Q : Value → Shared → Prop} {E : Value → Shared → Prop}
    (hq : ∀ s' : Shared, (∀ b o, s.heap.get? b = some o → s'.heap.get? b = some o) → s'.os = s.os → s'.gens = s.gens → Q (.bool true) s') : wpAny (model prog w) A (call (.ref fa) [.ref ax]) Q E s := by
  subst es
  have hr : HR ⟨prog, w, s.heap, tyOf, fnaOf mg⟩ [] [] s.heap := ⟨fun _ _ e => e, rfl, List.nodup_nil, (fun a h => nomatch h), fun n o a h1 _ => by simp at h1⟩
  have := call_sound (K := ⟨prog, w, s.heap, tyOf, fnaOf mg⟩) (pg := pgOf bl md (recsOf p)) (top_GK hbl T0 prog w hf hg) (ty_ok prog w s.heap _) ⟨rfl, rfl, rfl⟩ (fun f F hF => top_fn T0 prog w hg hF) T0.nolimit hs d A rm n [.frz l] [] (.bool true) σ' hc [] s [.ref ax] hr (.cons (.frz hx hv hl) .nil)
  have e : fnaOf mg n = fa := fna_of hn hm
  unfold TR at this
  simp only [e] at this
  refine wpAny_mono this (fun v s' hq' => ?_) fun _ _ f => f.elim
  obtain ⟨ρ', g, rv⟩ := hq'
  cases rv
  exact hq s' g.hr.keep g.st.os g.st.gens
end
end Mini

/-! The script. -/
set_option autoImplicit false
namespace Mini
open PySem PySem.W PyProof.Rows

theorem wellall_ints {K : Kx} {P : Params} {h h' : Heap} : ∀ {l : List Int} {vs : List Value}, WellAll P h vs (ofPys (l.map .int)) → RVs K [] h' (l.map V.int) vs
  | [], _, .nil => .nil
  | i :: l, _, .cons (.int _ t) r => .cons (.int i t) (wellall_ints (l := l) r)
theorem well_ints {K : Kx} {P : Params} {h h' : Heap} {l : List Int} {ax : Addr} (w : Well P h (.ref ax) (ofPy (.list (l.map .int)))) : ∃ vs, h.get? ax = some (listObj vs 0) ∧ RVs K [] h' (l.map V.int) vs := by
  have e : ofPy (.list (l.map .int)) = .list (ofPys (l.map .int)) := rfl
  rw [e] at w
  cases w with
  | list h1 h2 => exact ⟨_, h1, wellall_ints h2⟩
theorem script_small {l : List Int} (h : PyData.layable0 (.list (l.map .int)) = true) : ∀ x ∈ l, x.natAbs < 2 ^ (2 ^ 20) := fun x hx => by
  have := PyData.bits_item_of_ints h hx
  exact intBits_le_iff.mp this
theorem rm_caller : Rm 60 callerA := ⟨rfl, by decide, by decide⟩
end Mini

/-! Plain answers: the evaluator's steps as rewriting rules. -/
set_option autoImplicit false
namespace Mini
open PySem

@[simp] theorem bin_add (x y : Int) (σ : H) : binop .add (.int x) (.int y) σ = some (.int (x + y), σ) := rfl
@[simp] theorem bin_sub (x y : Int) (σ : H) : binop .sub (.int x) (.int y) σ = some (.int (x - y), σ) := rfl
theorem bin_mul {x y : Int} (h : mulOK x y) (σ : H) : binop .mul (.int x) (.int y) σ = some (.int (x * y), σ) := by simp only [binop, if_pos h]
@[simp] theorem bin_fdiv {x y : Int} (h : y ≠ 0 ∧ y.natAbs < 2 ^ 256) (σ : H) : binop .fdiv (.int x) (.int y) σ = some (.int (x.fdiv y), σ) := by simp only [binop, if_pos h]
@[simp] theorem bin_mod {x y : Int} (h : y ≠ 0) (σ : H) : binop .mod (.int x) (.int y) σ = some (.int (x.fmod y), σ) := by simp only [binop, if_pos h]
@[simp] theorem bin_pow {x y : Int} (h : 0 ≤ y ∧ y ≤ 256 ∧ x.natAbs < 2 ^ 64) (σ : H) : binop .pow (.int x) (.int y) σ = some (.int (x ^ y.toNat), σ) := by simp only [binop, if_pos h]
theorem bin_cat {m n : Nat} {σ : H} {x y : List V} (h1 : listOf σ (.obj m) = some x) (h2 : listOf σ (.obj n) = some y) : binop .add (.obj m) (.obj n) σ = mkList σ (x ++ y) := by simp only [binop, h1, h2]
@[simp] theorem mkList_ok {l : List V} (h : l.length ≤ lenMax) (σ : H) : mkList σ l = some (.obj σ.length, σ ++ [.list l]) := by simp only [mkList, if_pos h]
theorem listOf_get {n : Nat} {σ : H} {l : List V} (h : σ[n]? = some (.list l)) : listOf σ (.obj n) = some l := by simp only [listOf, h]
theorem items_get {n : Nat} {σ : H} {l : List V} (h : σ[n]? = some (.list l)) : items σ (.obj n) = some l := by simp only [items, h]
@[simp] theorem items_tup (σ : H) (l : List V) : items σ (.tup l) = some l := rfl
@[simp] theorem items_frz (σ : H) (l : List Int) : items σ (.frz l) = some (l.map .int) := rfl
@[simp] theorem truth_bool (b : Bool) : truth (.bool b) = some b := rfl
@[simp] theorem truth_none : truth .none = some false := rfl
@[simp] theorem cmp_le (x y : Int) (σ : H) : cmpop .le (.int x) (.int y) σ = some (decide (x ≤ y)) := rfl
@[simp] theorem cmp_lt (x y : Int) (σ : H) : cmpop .lt (.int x) (.int y) σ = some (decide (x < y)) := rfl
@[simp] theorem cmp_gt (x y : Int) (σ : H) : cmpop .gt (.int x) (.int y) σ = some (decide (y < x)) := rfl
@[simp] theorem cmp_ge (x y : Int) (σ : H) : cmpop .ge (.int x) (.int y) σ = some (decide (y ≤ x)) := rfl
@[simp] theorem cmp_eq (x y : Int) (σ : H) : cmpop .eq (.int x) (.int y) σ = some (decide (x = y)) := by
  simp [cmpop, eqV, toD, PyData.eqv]; rfl
@[simp] theorem cmp_ne (x y : Int) (σ : H) : cmpop .ne (.int x) (.int y) σ = some (!decide (x = y)) := by
  simp [cmpop, eqV, toD, PyData.eqv]; rfl
@[simp] theorem cmp_bne (x y : Bool) (σ : H) : cmpop .ne (.bool x) (.bool y) σ = some (!(x == y)) := by
  simp [cmpop, eqV, toD, PyData.eqv]
@[simp] theorem isi_bool (x : Bool) (σ : H) : isiV σ (.bool x) 1 = some true := rfl
theorem callF_eq {pg : Pg} {d n : Nat} {F : Fn} {as : List V} {ℓ : L} {σ : H} (hF : pg.fn n = some F) (hs : startL F as = some ℓ) : callF pg (d + 1) n as σ = gc F.mode σ (retX (execs ⟨pg, callF pg d⟩ F.body ℓ σ)) := by
  simp only [callF, hF, hs]
theorem gc_pure {σ t : H} {v : V} (h : below σ.length v = true) : gc .pure σ (some (.ok v, σ ++ t)) = some (.ok v, σ) := by simp [gc, h]
theorem gc_pure0 {σ : H} {v : V} (h : below σ.length v = true) : gc .pure σ (some (.ok v, σ)) = some (.ok v, σ) := by simp [gc, h]
@[simp] theorem below_int (n : Nat) (i : Int) : below n (.int i) = true := rfl
@[simp] theorem below_bool (n : Nat) (i : Bool) : below n (.bool i) = true := rfl
@[simp] theorem T3.below_v (n : Nat) (x : T3) : below n x.v = true := rfl
@[simp] theorem len1 : 1 ≤ lenMax := by decide
@[simp] theorem len2 : 2 ≤ lenMax := by decide
@[simp] theorem len3 : 3 ≤ lenMax := by decide
@[simp] theorem len4 : 4 ≤ lenMax := by decide
/-- meet -/
noncomputable def S0_0 : St := (St.ret (Ex.and (Ex.cmp (Ex.idx (Ex.var 0) (Ex.lit (V.int 0))) (Ch.one Cop.le (Ex.idx (Ex.var 1) (Ex.lit (V.int 1))))) (Ex.cmp (Ex.idx (Ex.var 1) (Ex.lit (V.int 0))) (Ch.one Cop.le (Ex.idx (Ex.var 0) (Ex.lit (V.int 1)))))))
noncomputable def B0 : Ss := .cons S0_0 <| .nil
/-- _law_at -/
noncomputable def S16_0 : St := (St.ret (Ex.idx (Ex.bin Bop.add (Ex.slc (Ex.var 0) (Oe.yes (Ex.var 1)) (Oe.yes (Ex.bin Bop.add (Ex.var 1) (Ex.lit (V.int 1)))) Oe.no) (Ex.lst (Es.cons (Ex.lit (V.int 0)) Es.nil))) (Ex.lit (V.int 0))))
noncomputable def B16 : Ss := .cons S16_0 <| .nil
/-- _law_made -/
noncomputable def S17_0 : St := (St.asg (Tg.one 1) (Ex.bin Bop.sub (Ex.bin Bop.mod (Ex.bin Bop.fdiv (Ex.var 0) (Ex.lit (V.int 4))) (Ex.lit (V.int 61))) (Ex.lit (V.int 30))))
noncomputable def S17_1 : St := (St.ife (Ex.cmp (Ex.bin Bop.mod (Ex.var 0) (Ex.lit (V.int 4))) (Ch.one Cop.eq (Ex.lit (V.int 3)))) (Ss.cons (St.asg (Tg.one 1) (Ex.bin Bop.sub (Ex.bin Bop.mod (Ex.bin Bop.mul (Ex.bin Bop.fdiv (Ex.var 0) (Ex.lit (V.int 4))) (Ex.bin Bop.pow (Ex.lit (V.int 48271)) (Ex.lit (V.int 12)))) (Ex.bin Bop.sub (Ex.bin Bop.mul (Ex.lit (V.int 2)) (Ex.bin Bop.pow (Ex.lit (V.int 10)) (Ex.lit (V.int 60)))) (Ex.lit (V.int 1)))) (Ex.bin Bop.sub (Ex.bin Bop.pow (Ex.lit (V.int 10)) (Ex.lit (V.int 60))) (Ex.lit (V.int 1))))) Ss.nil) Ss.nil)
noncomputable def S17_2 : St := (St.asg (Tg.one 2) (Ex.bin Bop.mod (Ex.bin Bop.fdiv (Ex.var 0) (Ex.lit (V.int 244))) (Ex.lit (V.int 16))))
noncomputable def S17_3 : St := (St.ife (Ex.cmp (Ex.bin Bop.mod (Ex.bin Bop.fdiv (Ex.var 0) (Ex.lit (V.int 3904))) (Ex.lit (V.int 8))) (Ch.one Cop.eq (Ex.lit (V.int 1)))) (Ss.cons (St.asg (Tg.one 2) (Ex.bin Bop.mod (Ex.bin Bop.mul (Ex.bin Bop.fdiv (Ex.var 0) (Ex.lit (V.int 4))) (Ex.bin Bop.pow (Ex.lit (V.int 69621)) (Ex.lit (V.int 12)))) (Ex.bin Bop.pow (Ex.lit (V.int 10)) (Ex.lit (V.int 60))))) Ss.nil) Ss.nil)
noncomputable def S17_4 : St := (St.asg (Tg.one 3) (Ex.bin Bop.sub (Ex.bin Bop.mod (Ex.bin Bop.fdiv (Ex.var 0) (Ex.lit (V.int 31232))) (Ex.lit (V.int 7))) (Ex.lit (V.int 3))))
noncomputable def S17_5 : St := (St.ife (Ex.cmp (Ex.bin Bop.mod (Ex.bin Bop.fdiv (Ex.var 0) (Ex.lit (V.int 218624))) (Ex.lit (V.int 8))) (Ch.one Cop.eq (Ex.lit (V.int 1)))) (Ss.cons (St.asg (Tg.one 3) (Ex.bin Bop.sub (Ex.bin Bop.mod (Ex.bin Bop.mul (Ex.bin Bop.fdiv (Ex.var 0) (Ex.lit (V.int 4))) (Ex.bin Bop.pow (Ex.lit (V.int 16807)) (Ex.lit (V.int 14)))) (Ex.bin Bop.sub (Ex.bin Bop.mul (Ex.lit (V.int 2)) (Ex.bin Bop.pow (Ex.lit (V.int 10)) (Ex.lit (V.int 60)))) (Ex.lit (V.int 1)))) (Ex.bin Bop.sub (Ex.bin Bop.pow (Ex.lit (V.int 10)) (Ex.lit (V.int 60))) (Ex.lit (V.int 1))))) Ss.nil) Ss.nil)
noncomputable def S17_6 : St := (St.ret (Ex.tup (Es.cons (Ex.var 1) (Es.cons (Ex.blt Blt.min (Es.cons (Ex.bin Bop.add (Ex.var 1) (Ex.var 2)) (Es.cons (Ex.bin Bop.sub (Ex.bin Bop.pow (Ex.lit (V.int 10)) (Ex.lit (V.int 60))) (Ex.lit (V.int 1))) Es.nil))) (Es.cons (Ex.var 3) Es.nil)))))
noncomputable def B17 : Ss := .cons S17_0 <| .cons S17_1 <| .cons S17_2 <| .cons S17_3 <| .cons S17_4 <| .cons S17_5 <| .cons S17_6 <| .nil

theorem at_slice (l : List Int) (k : Nat) : ∃ r, ((l.map V.int).take (clampS ((k : Int) + 1) l.length)).drop (clampS (k : Int) l.length) ++ [V.int 0] = V.int (l.getD k 0) :: r ∧ r.length ≤ 1 := by
  have h1 : clampS ((k : Int) + 1) l.length = min (k + 1) l.length := by
    unfold clampS; rw [if_neg (by omega)]; simp
  have h2 : clampS (k : Int) l.length = min k l.length := by
    unfold clampS; rw [if_neg (by omega)]; simp
  rw [h1, h2, ← List.map_take, ← List.map_drop]
  rcases Nat.lt_or_ge k l.length with h | h
  · have e1 : min (k + 1) l.length = k + 1 := by omega
    have e2 : min k l.length = k := by omega
    rw [e1, e2, List.take_add_one, List.getElem?_eq_getElem h]
    have : (l.take k ++ [l[k]]).drop k = [l[k]] := by
      rw [List.drop_append_of_le_length (by simp; omega)]; simp
    simp only [Option.toList_some, this]
    exact ⟨[V.int 0], by simp [List.getD_eq_getElem?_getD, List.getElem?_eq_getElem h], by simp⟩
  · have e1 : min (k + 1) l.length = l.length := by omega
    have e2 : min k l.length = l.length := by omega
    rw [e1, e2, List.take_length, List.drop_length]
    refine ⟨[], ?_, by simp⟩
    simp [List.getD_eq_getElem?_getD, List.getElem?_eq_none h]

theorem ev_at {pg : Pg} (hF : pg.fn 16 = some ⟨[0, 1], 10, B16, .pure⟩) (d : Nat) (l : List Int) (k : Nat) (σ : H) : callF pg (d + 1) 16 [.frz l, .int (k : Nat)] σ = some (.ok (.int (l.getD k 0)), σ) := by
  obtain ⟨r, hr, hrl⟩ := at_slice l k
  rw [callF_eq hF rfl]
  have hlen : (((l.map V.int).take (clampS ((k : Int) + 1) l.length)).drop (clampS (k : Int) l.length)).length ≤ lenMax := by
    have := congrArg List.length hr
    simp only [List.length_append, List.length_cons, List.length_nil] at this
    unfold lenMax; omega
  generalize hx : ((l.map V.int).take (clampS ((k : Int) + 1) l.length)).drop (clampS (k : Int) l.length) = x at hr hlen
  have e1 : evalE ⟨pg, callF pg d⟩ (Ex.slc (Ex.var 0) (Oe.yes (Ex.var 1)) (Oe.yes (Ex.bin Bop.add (Ex.var 1) (Ex.lit (V.int 1)))) Oe.no) [some (.frz l), some (.int k), none, none, none, none, none, none, none, none] σ = some (.ok (.obj σ.length), σ ++ [.list x]) := by
    simp [evalE, evalOe, okX, sliceV, sliceL, hx, hlen]
  have hl2 : (x ++ [V.int 0]).length ≤ lenMax := by rw [hr]; simp; unfold lenMax; omega
  have e2 : binop .add (.obj σ.length) (.obj (σ.length + 1)) (σ ++ [.list x, .list [.int 0]]) = mkList (σ ++ [.list x, .list [.int 0]]) (x ++ [.int 0]) := bin_cat (listOf_get (by simp)) (listOf_get (by simp))
  have e3 : getIdx (σ ++ [.list x, .list [.int 0], .list (x ++ [.int 0])]) (.obj (σ.length + 2)) (.int 0) = some (.int (l.getD k 0)) := by
    have hi := items_get (σ := σ ++ [O.list x, O.list [V.int 0], O.list (x ++ [V.int 0])]) (n := σ.length + 2) (l := x ++ [.int 0]) (by simp)
    simp only [getIdx, hi, Option.bind_some]
    rw [hr]
    simp [idxN]
  show gc .pure σ (retX (execs ⟨pg, callF pg d⟩ B16 [some (.frz l), some (.int k), none, none, none, none, none, none, none, none] σ)) = _
  have : execs ⟨pg, callF pg d⟩ B16 [some (.frz l), some (.int k), none, none, none, none, none, none, none, none] σ = some (.ret (.int (l.getD k 0)), [some (.frz l), some (.int k), none, none, none, none, none, none, none, none], σ ++ [.list x, .list [.int 0], .list (x ++ [.int 0])]) := by
    have hl2' : x.length + 1 ≤ lenMax := by simpa using hl2
    simp only [B16, S16_0, execs, exec]
    simp only [evalE] at e1 ⊢
    rw [e1]
    simp [evalE, evalEs, e2, hl2', e3]
  rw [this]
  exact gc_pure rfl
end Mini

/-! _law_made, meet -/
set_option autoImplicit false
namespace Mini
open PySem

theorem big_of {a : Int} (h : a.natAbs < 2 ^ 256) : Big a := Nat.lt_of_lt_of_le h (Nat.pow_le_pow_right (by decide) (by unfold bigE; decide))
theorem mulOK_of {a c : Int} (ha : Big a) (hc : c.natAbs < 2 ^ 256) : mulOK a c := .inr (.inr ⟨ha, big_of hc⟩)
theorem natAbs_fdiv (a : Int) (k : Nat) : (a.fdiv (k : Int)).natAbs ≤ a.natAbs := by
  rcases Nat.eq_zero_or_pos k with rfl | hk
  · simp
  · have h1 : a.fdiv (k : Int) = a / (k : Int) := Int.fdiv_eq_ediv_of_nonneg _ (by omega)
    rw [h1]
    exact Int.natAbs_ediv_le_natAbs a k
theorem big_fdiv {a : Int} (h : Big a) (k : Nat) : Big (a.fdiv (k : Int)) := Nat.lt_of_le_of_lt (natAbs_fdiv a k) h

noncomputable def W60 : Int := 10 ^ 60 - 1
noncomputable def lowOf (s : Int) : Int := if s.fmod 4 = 3 then (s.fdiv 4 * 48271 ^ 12).fmod (2 * 10 ^ 60 - 1) - (10 ^ 60 - 1) else (s.fdiv 4).fmod 61 - 30
noncomputable def widOf (s : Int) : Int := if (s.fdiv 3904).fmod 8 = 1 then (s.fdiv 4 * 69621 ^ 12).fmod (10 ^ 60) else (s.fdiv 244).fmod 16
noncomputable def mrkOf (s : Int) : Int := if (s.fdiv 218624).fmod 8 = 1 then (s.fdiv 4 * 16807 ^ 14).fmod (2 * 10 ^ 60 - 1) - (10 ^ 60 - 1) else (s.fdiv 31232).fmod 7 - 3
noncomputable def madeT (s : Int) : T3 := ⟨lowOf s, if 10 ^ 60 - 1 < lowOf s + widOf s then 10 ^ 60 - 1 else lowOf s + widOf s, mrkOf s⟩

theorem ev_made {pg : Pg} (hF : pg.fn 17 = some ⟨[0], 12, B17, .pure⟩) (d : Nat) (s : Int) (σ : H) (hs : Big s) : callF pg (d + 1) 17 [.int s] σ = some (.ok (madeT s).v, σ) := by
  rw [callF_eq hF rfl]
  have hm : ∀ c : Int, c.natAbs < 2 ^ 256 → mulOK (s.fdiv 4) c := fun c hc => mulOK_of (big_fdiv hs 4) hc
  have b1 : ∀ (c : Int) (σ : H), c.natAbs < 2 ^ 256 → binop .mul (.int (s.fdiv 4)) (.int c) σ = some (.int (s.fdiv 4 * c), σ) := fun c σ hc => bin_mul (hm c hc) σ
  have b2 : ∀ (c : Int) (σ : H), binop .mul (.int 2) (.int c) σ = some (.int (2 * c), σ) := fun c σ => bin_mul (.inl (by decide)) σ
  have key : ∃ ℓ, execs ⟨pg, callF pg d⟩ B17 [some (.int s), none, none, none, none, none, none, none, none, none, none, none] σ = some (.ret (madeT s).v, ℓ, σ) := by
    by_cases c1 : s.fmod 4 = 3 <;> by_cases c2 : (s.fdiv 3904).fmod 8 = 1 <;> by_cases c3 : (s.fdiv 218624).fmod 8 = 1 <;>
      simp [B17, S17_0, S17_1, S17_2, S17_3, S17_4, S17_5, S17_6, execs, exec, evalE, evalEs, evalCh, okX, b1, b2, c1, c2, c3, setTg, setL, bltV, madeT, lowOf, widOf, mrkOf, T3.v]
  obtain ⟨ℓ, key⟩ := key
  show gc .pure σ (retX (execs ⟨pg, callF pg d⟩ B17 [some (.int s), none, none, none, none, none, none, none, none, none, none, none] σ)) = _
  rw [key]
  exact gc_pure0 rfl

theorem ev_meet {pg : Pg} (hF : pg.fn 0 = some ⟨[0, 1], 10, B0, .pure⟩) (d : Nat) (x y : T3) (σ : H) : callF pg (d + 1) 0 [x.v, y.v] σ = some (.ok (.bool (decide (x.a ≤ y.b) && decide (y.a ≤ x.b))), σ) := by
  rw [callF_eq hF rfl]
  have key : ∃ ℓ, execs ⟨pg, callF pg d⟩ B0 [some x.v, some y.v, none, none, none, none, none, none, none, none] σ = some (.ret (.bool (decide (x.a ≤ y.b) && decide (y.a ≤ x.b))), ℓ, σ) := by
    by_cases c1 : x.a ≤ y.b <;> simp [B0, S0_0, execs, exec, evalE, evalEs, evalCh, okX, T3.v, getIdx, idxN, c1]
  obtain ⟨ℓ, key⟩ := key
  show gc .pure σ (retX (execs ⟨pg, callF pg d⟩ B0 [some x.v, some y.v, none, none, none, none, none, none, none, none] σ)) = _
  rw [key]
  exact gc_pure0 rfl
end Mini

/-! The law 01. -/
set_option autoImplicit false
namespace Mini
open PySem
/-- law -/
noncomputable def S60_0 : St := (St.asg (Tg.one 1) (Ex.call 17 (Es.cons (Ex.bin Bop.add (Ex.bin Bop.mul (Ex.call 16 (Es.cons (Ex.var 0) (Es.cons (Ex.lit (V.int 0)) Es.nil))) (Ex.lit (V.int 48271))) (Ex.lit (V.int 7))) Es.nil)))
noncomputable def S60_1 : St := (St.asg (Tg.one 2) (Ex.call 17 (Es.cons (Ex.bin Bop.add (Ex.bin Bop.mul (Ex.call 16 (Es.cons (Ex.var 0) (Es.cons (Ex.lit (V.int 1)) Es.nil))) (Ex.lit (V.int 48271))) (Ex.lit (V.int 11))) Es.nil)))
noncomputable def S60_2 : St := (St.ife (Ex.and (Ex.cmp (Ex.bin Bop.mod (Ex.call 16 (Es.cons (Ex.var 0) (Es.cons (Ex.lit (V.int 2)) Es.nil))) (Ex.lit (V.int 3))) (Ch.one Cop.eq (Ex.lit (V.int 0)))) (Ex.cmp (Ex.bin Bop.sub (Ex.lit (V.int 0)) (Ex.bin Bop.pow (Ex.lit (V.int 10)) (Ex.lit (V.int 59)))) (Ch.more Cop.lt (Ex.idx (Ex.var 1) (Ex.lit (V.int 1))) (Ch.one Cop.lt (Ex.bin Bop.pow (Ex.lit (V.int 10)) (Ex.lit (V.int 59))))))) (Ss.cons (St.asg (Tg.one 3) (Ex.bin Bop.sub (Ex.bin Bop.add (Ex.idx (Ex.var 1) (Ex.lit (V.int 1))) (Ex.bin Bop.mod (Ex.bin Bop.fdiv (Ex.call 16 (Es.cons (Ex.var 0) (Es.cons (Ex.lit (V.int 2)) Es.nil))) (Ex.lit (V.int 3))) (Ex.lit (V.int 3)))) (Ex.lit (V.int 1)))) (Ss.cons (St.asg (Tg.one 2) (Ex.tup (Es.cons (Ex.var 3) (Es.cons (Ex.bin Bop.add (Ex.var 3) (Ex.bin Bop.mod (Ex.bin Bop.fdiv (Ex.call 16 (Es.cons (Ex.var 0) (Es.cons (Ex.lit (V.int 2)) Es.nil))) (Ex.lit (V.int 9))) (Ex.lit (V.int 5)))) (Es.cons (Ex.idx (Ex.var 2) (Ex.lit (V.int 2))) Es.nil))))) Ss.nil)) Ss.nil)
noncomputable def S60_3 : St := (St.asg (Tg.one 4) (Ex.cmp (Ex.blt Blt.max (Es.cons (Ex.idx (Ex.var 1) (Ex.lit (V.int 0))) (Es.cons (Ex.idx (Ex.var 2) (Ex.lit (V.int 0))) Es.nil))) (Ch.one Cop.le (Ex.blt Blt.min (Es.cons (Ex.idx (Ex.var 1) (Ex.lit (V.int 1))) (Es.cons (Ex.idx (Ex.var 2) (Ex.lit (V.int 1))) Es.nil))))))
noncomputable def S60_4 : St := (St.for_ (Tg.one 5) (It.ex (Ex.lst (Es.cons (Ex.call 0 (Es.cons (Ex.var 1) (Es.cons (Ex.var 2) Es.nil))) (Es.cons (Ex.call 0 (Es.cons (Ex.var 2) (Es.cons (Ex.var 1) Es.nil))) Es.nil)))) (Ss.cons (St.ife (Ex.or (Ex.not (Ex.blt Blt.isinstance (Es.cons (Ex.var 5) (Es.cons (Ex.ty 1) Es.nil)))) (Ex.cmp (Ex.var 5) (Ch.one Cop.ne (Ex.var 4)))) (Ss.cons (St.ret (Ex.lit (V.bool false))) Ss.nil) Ss.nil) Ss.nil))
noncomputable def S60_5 : St := (St.ret (Ex.lit (V.bool true)))
noncomputable def B60 : Ss := .cons S60_0 <| .cons S60_1 <| .cons S60_2 <| .cons S60_3 <| .cons S60_4 <| .cons S60_5 <| .nil
theorem fmod_lt' (a : Int) {m : Int} (h : 0 < m) : 0 ≤ a.fmod m ∧ a.fmod m < m := by
  rw [Int.fmod_eq_emod_of_nonneg _ (by omega)]
  exact ⟨Int.emod_nonneg _ (by omega), Int.emod_lt_of_pos _ h⟩

theorem lowOf_le (s : Int) : -(10 ^ 60 - 1) ≤ lowOf s ∧ lowOf s ≤ 10 ^ 60 - 1 := by
  unfold lowOf
  split
  · have := fmod_lt' (s.fdiv 4 * 48271 ^ 12) (m := 2 * 10 ^ 60 - 1) (by decide)
    omega
  · have := fmod_lt' (s.fdiv 4) (m := 61) (by decide)
    omega
theorem widOf_nonneg (s : Int) : 0 ≤ widOf s := by
  unfold widOf
  split
  · exact (fmod_lt' _ (by decide)).1
  · exact (fmod_lt' _ (by decide)).1
theorem madeT_ord (s : Int) : (madeT s).a ≤ (madeT s).b := by
  have h1 := lowOf_le s
  have h2 := widOf_nonneg s
  simp only [madeT]
  split <;> omega

theorem big_at {l : List Int} (hb : ∀ x ∈ l, x.natAbs < 2 ^ (2 ^ 20)) (k : Nat) (c : Nat) (hc : c < 65536) : Big (l.getD k 0 * 48271 + c) := by
  have hx : (l.getD k 0).natAbs < 2 ^ (2 ^ 20) := by
    rw [List.getD_eq_getElem?_getD]
    cases h : l[k]? with
    | none => exact Nat.two_pow_pos _
    | some x => exact hb x (List.mem_of_getElem? h)
  generalize l.getD k 0 = x at hx
  generalize hE : 2 ^ 20 = E at hx
  have h1 : (x * 48271 + c).natAbs ≤ x.natAbs * 48271 + c := by
    have := Int.natAbs_add_le (x * 48271) c
    rw [Int.natAbs_mul] at this
    simpa using this
  have h2 : x.natAbs * 48271 + c < 2 ^ (E + 17) := by
    rw [Nat.pow_add]
    have h3 : x.natAbs + 1 ≤ 2 ^ E := hx
    have h4 := Nat.mul_le_mul_right (2 ^ 17) h3
    omega
  refine Nat.lt_of_le_of_lt h1 (Nat.lt_of_lt_of_le h2 (Nat.pow_le_pow_right (by decide) ?_))
  rw [← hE]; decide

noncomputable def otherT (o1 o2 : T3) (t : Int) : T3 := if t.fmod 3 = 0 ∧ (-(10 ^ 59) < o1.b ∧ o1.b < 10 ^ 59) then ⟨o1.b + (t.fdiv 3).fmod 3 - 1, o1.b + (t.fdiv 3).fmod 3 - 1 + (t.fdiv 9).fmod 5, o2.c⟩ else o2
theorem otherT_ord (o1 o2 : T3) (t : Int) (h : o2.a ≤ o2.b) : (otherT o1 o2 t).a ≤ (otherT o1 o2 t).b := by
  unfold otherT
  split
  · have := fmod_lt' (t.fdiv 9) (m := 5) (by decide); simp only; omega
  · exact h

theorem law01 {pg : Pg} (h0 : pg.fn 0 = some ⟨[0, 1], 10, B0, .pure⟩) (h16 : pg.fn 16 = some ⟨[0, 1], 10, B16, .pure⟩) (h17 : pg.fn 17 = some ⟨[0], 12, B17, .pure⟩) (h60 : pg.fn 60 = some ⟨[0], 14, B60, .pure⟩)
    (d : Nat) (l : List Int) (hb : ∀ x ∈ l, x.natAbs < 2 ^ (2 ^ 20)) : callF pg (d + 2) 60 [.frz l] [] = some (.ok (.bool true), []) := by
  rw [callF_eq h60 rfl]
  have b1 : ∀ (c : Int) (σ : H), binop .mul (.int c) (.int 48271) σ = some (.int (c * 48271), σ) := fun c σ => bin_mul (.inr (.inl (by decide))) σ
  have a0 : ∀ σ, callF pg (d + 1) 16 [.frz l, .int 0] σ = some (.ok (.int (l.getD 0 0)), σ) := fun σ => ev_at h16 d l 0 σ
  have a1 : ∀ σ, callF pg (d + 1) 16 [.frz l, .int 1] σ = some (.ok (.int (l.getD 1 0)), σ) := fun σ => ev_at h16 d l 1 σ
  have a2 : ∀ σ, callF pg (d + 1) 16 [.frz l, .int 2] σ = some (.ok (.int (l.getD 2 0)), σ) := fun σ => ev_at h16 d l 2 σ
  have m0 := fun σ => ev_made h17 d (l.getD 0 0 * 48271 + 7) σ (big_at hb 0 7 (by decide))
  have m1 := fun σ => ev_made h17 d (l.getD 1 0 * 48271 + 11) σ (big_at hb 1 11 (by decide))
  have me := fun x y σ => ev_meet h0 d x y σ
  generalize l.getD 0 0 = x0 at *
  generalize l.getD 1 0 = x1 at *
  generalize l.getD 2 0 = t at *
  have o1 := madeT_ord (x0 * 48271 + 7)
  have o2 := madeT_ord (x1 * 48271 + 11)
  generalize hA : madeT (x0 * 48271 + 7) = A at *
  generalize hB : madeT (x1 * 48271 + 11) = B at *
  have o3 := otherT_ord A B t o2
  have key : ∃ ℓ σ', execs ⟨pg, callF pg (d + 1)⟩ B60 [some (.frz l), none, none, none, none, none, none, none, none, none, none, none, none, none] [] = some (.ret (.bool true), ℓ, σ') := by
    have e0 : exec ⟨pg, callF pg (d + 1)⟩ S60_0 [some (.frz l), none, none, none, none, none, none, none, none, none, none, none, none, none] [] = some (.next, [some (.frz l), some A.v, none, none, none, none, none, none, none, none, none, none, none, none], []) := by
      simp [S60_0, exec, evalE, evalEs, okX, a0, b1, m0, setTg, setL]
    have e1 : exec ⟨pg, callF pg (d + 1)⟩ S60_1 [some (.frz l), some A.v, none, none, none, none, none, none, none, none, none, none, none, none] [] = some (.next, [some (.frz l), some A.v, some B.v, none, none, none, none, none, none, none, none, none, none, none], []) := by
      simp [S60_1, exec, evalE, evalEs, okX, a1, b1, m1, setTg, setL]
    have e2 : ∃ x, exec ⟨pg, callF pg (d + 1)⟩ S60_2 [some (.frz l), some A.v, some B.v, none, none, none, none, none, none, none, none, none, none, none] [] = some (.next, [some (.frz l), some A.v, some (otherT A B t).v, x, none, none, none, none, none, none, none, none, none, none], []) := by
      by_cases c1 : t.fmod 3 = 0 <;> by_cases c2 : -100000000000000000000000000000000000000000000000000000000000 < A.b <;> by_cases c3 : A.b < 100000000000000000000000000000000000000000000000000000000000 <;>
        simp [S60_2, execs, exec, evalE, evalEs, evalCh, okX, a2, c1, c2, c3, setTg, setL, otherT, T3.v, getIdx, idxN]
    obtain ⟨x, e2⟩ := e2
    generalize otherT A B t = O at *
    have e3 : exec ⟨pg, callF pg (d + 1)⟩ S60_3 [some (.frz l), some A.v, some O.v, x, none, none, none, none, none, none, none, none, none, none] [] = some (.next, [some (.frz l), some A.v, some O.v, x, some (.bool (decide (A.a ≤ O.b) && decide (O.a ≤ A.b))), none, none, none, none, none, none, none, none, none], []) := by
      have : decide ((if A.a < O.a then O.a else A.a) ≤ (if O.b < A.b then O.b else A.b)) = (decide (A.a ≤ O.b) && decide (O.a ≤ A.b)) := by
        rw [← Bool.decide_and]; apply decide_eq_decide.mpr; split <;> split <;> omega
      simp [S60_3, exec, evalE, evalEs, evalCh, okX, setTg, setL, T3.v, getIdx, idxN, bltV, this]
    have e4 : ∃ ℓ σ', exec ⟨pg, callF pg (d + 1)⟩ S60_4 [some (.frz l), some A.v, some O.v, x, some (.bool (decide (A.a ≤ O.b) && decide (O.a ≤ A.b))), none, none, none, none, none, none, none, none, none] [] = some (.next, ℓ, σ') := by
      have hc : (decide (O.a ≤ A.b) && decide (A.a ≤ O.b)) = (decide (A.a ≤ O.b) && decide (O.a ≤ A.b)) := Bool.and_comm _ _
      simp [S60_4, execs, exec, evalE, evalEs, evalCh, evalIt, okX, me, setTg, setL, forL, bltV, hc]
    obtain ⟨ℓ, σ', e4⟩ := e4
    exact ⟨ℓ, σ', by simp [B60, execs, e0, e1, e2, e3, e4, S60_5, exec, evalE]⟩
  obtain ⟨ℓ, σ', key⟩ := key
  show gc .pure [] (retX (execs ⟨pg, callF pg (d + 1)⟩ B60 [some (.frz l), none, none, none, none, none, none, none, none, none, none, none, none, none] [])) = _
  rw [key]
  exact gc_pure (σ := []) rfl
end Mini

open PySem PySem.W PyProof.Rows
set_option Elab.async false
namespace Mini
noncomputable def bl1 : List (Str × Blt) := [(Str.ofString "len", .len), (Str.ofString "max", .max), (Str.ofString "min", .min), (Str.ofString "int", .int), (Str.ofString "list", .list), (Str.ofString "sum", .sum), (Str.ofString "isinstance", .isinstance)]
noncomputable def md1 : Nat → Mode := fun _ => .pure
theorem bl1_sub (x : Str) (b : Blt) (h : bl1.lookup x = some b) : bltNames.lookup x = some b := by
  have hm := mem_of_lookup h
  simp only [bl1, List.mem_cons, List.not_mem_nil, or_false, Prod.mk.injEq] at hm
  rcases hm with ⟨rfl, rfl⟩ | ⟨rfl, rfl⟩ | ⟨rfl, rfl⟩ | ⟨rfl, rfl⟩ | ⟨rfl, rfl⟩ | ⟨rfl, rfl⟩ | ⟨rfl, rfl⟩ <;> rfl
theorem bl1_no : ¬ ∃ x, bl1.lookup x = some .sorted := by
  rintro ⟨x, h⟩
  have hm := mem_of_lookup h
  simp [bl1] at hm
end Mini
set_option maxRecDepth 100000 in
set_option maxHeartbeats 8000000 in
theorem PySem.Challenge.cw_uf060001_01_holds : PySem.Challenge.rw_uf060001_01.Holds := by
  w_on; o_law; k_head; (case hw => w_witness2)
  k_fill
  intro w s₀ s₁ mg mb G Y fa o pm cd doc dV kV ho hd hcd hD hmg hg args vals as hpre hlay hrd hwl hlo
  refine Ground.open G ?_
  intro T B D TE TW
  wrow_args hpre hlay hrd hwl hlo
  rename_i scr hs hlay0 hLay hr1 hl2 wa4 wa3 ax vs wa0 hL ra w1 r0 hI hr hc1 hc0
  clear hd hcd hD ho Y
  obtain ⟨vs', hx, hv⟩ := Mini.well_ints (K := ⟨_, w, s₁.heap, Mini.tyOf, Mini.fnaOf mg⟩) (h' := s₁.heap) w1
  refine Mini.law_end (σ' := []) (bl := Mini.bl1) (md := Mini.md1) (d := 60) (n := 60) (x := Str.ofString "law") Mini.bl1_sub T _ w ?q1 ?q2 Mini.rm_caller (fun h => absurd h Mini.bl1_no) rfl hx hv ?q3 rfl hmg ?q4 ?q5
  case q1 => decide +kernel
  case q2 => decide +kernel
  case q3 => have : scr.length ≤ 63 := by omega
             exact Nat.le_trans this (by decide)
  case q4 => exact Mini.law01 rfl rfl rfl rfl 58 scr (Mini.script_small hLay)
  case q5 =>
    intro s' k1 k2 k3
    exact GoodW.toG ⟨.inl ⟨_, .bool true, [], rfl, fun _ => rfl, .bool _, by wrow_post, fun _ => ⟨List.nodup_nil, nofun⟩⟩, k1, k2, k3.trans hg⟩
