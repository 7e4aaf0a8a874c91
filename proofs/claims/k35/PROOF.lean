import PyProof.Rows.All
import Wide.All
import OpenK.AllK
import Wide.FinOn
import HandS.ForMost
import HandS.ForExc
import HandS.IsInst
import HandS.Wide
import HandS.Deep
import HandS.SortInts
import HandS.Zip
import HandS.TupAny
import KE.KTupSum
import HandS.TupMul
import HandS.Flow
import HandS.Style
import KE.GoesEnum
import HandS.ExcIs
import PyProof.P3Eq
import PySem.Challenge.RW_levelpurses_k35_poverty_below_lines
set_option Elab.async false
set_option linter.all false
set_option maxRecDepth 100000
set_option maxHeartbeats 4000000
/-! A small language, its data, its evaluator. -/
namespace Rf
open PySem
abbrev D := PyData
/-- a value in a slot: data, a list or dict that may change (its place in the store), the script, a def -/
inductive Val where
  | d (x : D) | loc (n : Nat) | scr (xs : List Int) | fn (f : Str)
inductive Cell where
  | lst (xs : List D) | dct (kvs : List (D × D))
abbrev Store := List Cell
structure Exn where
  cls : Str
  fld : Option (Str × D)
inductive Res (A : Type) where
  | stuck | err (e : Exn) (S : Store) | ok (a : A) (S : Store)
def Res.bind {A B : Type} (r : Res A) (k : A → Store → Res B) : Res B :=
  match r with
  | .stuck => .stuck
  | .err e S => .err e S
  | .ok a S => k a S
def Res.lift {A : Type} (o : Option A) (S : Store) : Res A := match o with
  | some a => .ok a S
  | none => .stuck
@[simp] theorem Res.bind_ok {A B : Type} (a : A) (S : Store) (k : A → Store → Res B) : (Res.ok a S).bind k = k a S := rfl
@[simp] theorem Res.bind_err {A B : Type} (e : Exn) (S : Store) (k : A → Store → Res B) : (Res.err e S : Res A).bind k = .err e S := rfl
@[simp] theorem Res.bind_stuck {A B : Type} (k : A → Store → Res B) : (Res.stuck : Res A).bind k = .stuck := rfl
@[simp] theorem Res.lift_some {A : Type} (a : A) (S : Store) : Res.lift (some a) S = .ok a S := rfl
@[simp] theorem Res.lift_none {A : Type} (S : Store) : (Res.lift none S : Res A) = .stuck := rfl
abbrev Env := List (Option Val)

/-! ### equality of data, decided -/
mutual
def same : D → D → Bool
  | .none, .none => true
  | .bool a, .bool b => a == b
  | .int a, .int b => a == b
  | .str a, .str b => a == b
  | .list a, .list b => sames a b
  | .tuple a, .tuple b => sames a b
  | .dict a, .dict b => sameKv a b
  | _, _ => false
def sames : List D → List D → Bool
  | [], [] => true
  | x :: xs, y :: ys => same x y && sames xs ys
  | _, _ => false
def sameKv : List (D × D) → List (D × D) → Bool
  | [], [] => true
  | (x, u) :: xs, (y, v) :: ys => same x y && same u v && sameKv xs ys
  | _, _ => false
end
mutual
theorem same_eq : ∀ {a b : D}, same a b = true → a = b
  | .none, b, h => by cases b <;> first | rfl | (simp [same] at h)
  | .bool a, b, h => by cases b <;> simp_all [same]
  | .int a, b, h => by cases b <;> simp_all [same]
  | .str a, b, h => by cases b <;> simp_all [same]
  | .list a, b, h => by
    cases b <;> simp only [same, Bool.false_eq_true] at h
    rw [sames_eq h]
  | .tuple a, b, h => by
    cases b <;> simp only [same, Bool.false_eq_true] at h
    rw [sames_eq h]
  | .dict a, b, h => by
    cases b <;> simp only [same, Bool.false_eq_true] at h
    rw [sameKv_eq h]
theorem sames_eq : ∀ {a b : List D}, sames a b = true → a = b
  | [], [], _ => rfl
  | [], _ :: _, h => by simp [sames] at h
  | _ :: _, [], h => by simp [sames] at h
  | x :: xs, y :: ys, h => by
    simp only [sames, Bool.and_eq_true] at h
    rw [same_eq h.1, sames_eq h.2]
theorem sameKv_eq : ∀ {a b : List (D × D)}, sameKv a b = true → a = b
  | [], [], _ => rfl
  | [], _ :: _, h => by simp [sameKv] at h
  | _ :: _, [], h => by simp [sameKv] at h
  | (x, u) :: xs, (y, v) :: ys, h => by
    simp only [sameKv, Bool.and_eq_true] at h
    rw [same_eq h.1.1, same_eq h.1.2, sameKv_eq h.2]
end
mutual
theorem same_refl : ∀ a : D, same a a = true
  | .none => rfl
  | .bool a => by simp [same]
  | .int a => by simp [same]
  | .str a => by simp [same]
  | .list a => by simp [same, sames_refl a]
  | .tuple a => by simp [same, sames_refl a]
  | .dict a => by simp [same, sameKv_refl a]
theorem sames_refl : ∀ a : List D, sames a a = true
  | [] => rfl
  | x :: xs => by simp [sames, same_refl x, sames_refl xs]
theorem sameKv_refl : ∀ a : List (D × D), sameKv a a = true
  | [] => rfl
  | (x, u) :: xs => by simp [sameKv, same_refl x, same_refl u, sameKv_refl xs]
end

/-! ### the language -/
inductive Blt where
  | len | abs | int | str | sum | all | any | tuple | list | sorted | min | max | repr | bool
  deriving DecidableEq
mutual
inductive Tgt where
  | nm (i : Nat) | tp (ts : Tgts)
inductive Tgts where
  | nil | cons (t : Tgt) (r : Tgts)
end
mutual
inductive ME where
  | var (i : Nat) | cint (i : Int) | cstr (s : Str) | cbl (b : Bool) | cnon | gl (x : Str)
  | tup (es : MEs) | lst (es : MEs)
  | bin (op : Operator) (a b : ME) | neg (a : ME) | not (a : ME) | and (a b : ME) | or (a b : ME)
  | cmp (op : CmpOp) (a b : ME) | cmp2 (op op' : CmpOp) (a b c : ME) | ife (c a b : ME)
  | call (f : Str) (es : MEs) | blt (b : Blt) (es : MEs) | isi (a : ME) (ts : List String) | isi1 (a : ME) (t : String)
  | idx (a i : ME) | slc (a : ME) (lo hi : MEo) | rev (a : ME)
  | lc (own : List Nat) (t : Tgt) (it : MI) (c : MEo) (e : ME)
inductive MEs where
  | nil | cons (e : ME) (r : MEs)
inductive MEo where
  | none | some (e : ME)
inductive MI where
  | over (e : ME) | rng1 (a : ME) | rng2 (a b : ME) | enm (e : ME) | zip (a b : ME)
end
/-- what a clause says of the exception it holds -/
inductive HE where
  | is (f : Str) | and (a b : HE)
mutual
inductive MS where
  | asg (i : Nat) (e : ME) | asgN (i : Nat) (e : ME) | asgT (t : Tgt) (e : ME) | asg2 (i j : Nat) (a b : ME)
  | aug (i : Nat) (op : Operator) (e : ME) | setI (x : Nat) (i e : ME) | app (x : Nat) (e : ME)
  | ife (c : ME) (a b : MSs) | whl (c : ME) (b : MSs) | for_ (t : Tgt) (it : MI) (b : MSs)
  | ret (e : ME) | retN | drop (e : ME) | rais (c : Str) (m : Str) | try_ (b : MSs) (c : Str) (h : MSs) | tryR (b : MSs) (c : Str) (i : Nat) (h : HE) | asg3 (i j k : Nat) (a b e : ME) | pass | brk | cont
inductive MSs where
  | nil | cons (s : MS) (r : MSs)
end

/-! ### operations on data -/
def lim : Nat := 1000000
def binD (op : Operator) (x y : D) : Option D :=
  match op, x, y with
  | .Add, .int a, .int b => some (.int (a + b))
  | .Add, .str a, .str b => if a.length + b.length ≤ lim then some (.str (a ++ b)) else none
  | .Add, .tuple a, .tuple b => if a.length + b.length ≤ lim then some (.tuple (a ++ b)) else none
  | .Add, .list a, .list b => if a.length + b.length ≤ lim then some (.list (a ++ b)) else none
  | .Sub, .int a, .int b => some (.int (a - b))
  | .Mult, .int a, .int b => if a.natAbs.log2 + b.natAbs.log2 < 1000000 then some (.int (a * b)) else none
  | .Mult, .list a, .int b => if b ≤ 100000 ∧ -100000 ≤ b ∧ a.length * b.toNat ≤ lim then some (.list (List.replicate b.toNat a).flatten) else none
  | .Mult, .tuple a, .int b => if a ≠ [] ∧ 2 ≤ b ∧ b ≤ 1000 ∧ a.length ≤ 1000 then some (.tuple (List.replicate b.toNat a).flatten) else none
  | .FloorDiv, .int a, .int b => if b ≠ 0 ∧ b.natAbs.log2 < 9000 then some (.int (a.fdiv b)) else none
  | .Mod, .int a, .int b => if b ≠ 0 then some (.int (a.fmod b)) else none
  | _, _, _ => none
def augI (op : Operator) (a b : Int) : Option Int := match op with
  | .Add => some (a + b)
  | .Sub => some (a - b)
  | .Mult => if a.natAbs.log2 + b.natAbs.log2 < 1000000 then some (a * b) else none
  | _ => none
def shp (d : D) : Bool := SeqAt.shaped d
def cmpD (op : CmpOp) (x y : D) : Option Bool :=
  match op, x, y with
  | .Eq, x, y => if shp x && shp y then some (PyData.eqv x y) else none
  | .NotEq, x, y => if shp x && shp y then some (!PyData.eqv x y) else none
  | .Lt, .int a, .int b => some (decide (a < b))
  | .LtE, .int a, .int b => some (decide (a ≤ b))
  | .Gt, .int a, .int b => some (decide (b < a))
  | .GtE, .int a, .int b => some (decide (b ≤ a))
  | .In, x, .tuple ys => if shp x && shp (.tuple ys) then some (ys.any fun y => PyData.eqv y x) else none
  | .In, x, .list ys => if shp x && shp (.list ys) then some (ys.any fun y => PyData.eqv y x) else none
  | .NotIn, x, .tuple ys => if shp x && shp (.tuple ys) then some (!ys.any fun y => PyData.eqv y x) else none
  | .NotIn, x, .list ys => if shp x && shp (.list ys) then some (!ys.any fun y => PyData.eqv y x) else none
  | .Is, x, .none => some (match x with | .none => true | _ => false)
  | .IsNot, x, .none => some (match x with | .none => false | _ => true)
  | _, _, _ => none
def truD : D → Option Bool
  | .none => some false
  | .bool b => some b
  | .int i => some (i != 0)
  | .str s => if s.length ≤ lim then some (s.length != 0) else none
  | .list xs => some (!xs.isEmpty)
  | .tuple xs => some (!xs.isEmpty)
  | .dict _ => none
/-- a value read as data: what may change is read as it stands -/
def der (S : Store) : Val → Option D
  | .d x => some x
  | .loc n => match S[n]? with
    | some (.lst xs) => some (.list xs)
    | _ => none
  | .scr _ => none
  | .fn _ => none
def tru (S : Store) (v : Val) : Option Bool := (der S v).bind truD
/-- the data of a value that may be kept -/
def keep : Val → Option D
  | .d x => some x
  | _ => none
def keeps : List Val → Option (List D)
  | [] => some []
  | v :: r => match keep v, keeps r with
    | some x, some xs => some (x :: xs)
    | _, _ => none
def ders (S : Store) : List Val → Option (List D)
  | [] => some []
  | v :: r => match der S v, ders S r with
    | some x, some xs => some (x :: xs)
    | _, _ => none
def intsO : List D → Option (List Int)
  | [] => some []
  | .int i :: r => (intsO r).map (i :: ·)
  | _ => none
def blsO : List D → Option (List Bool)
  | [] => some []
  | .bool i :: r => (blsO r).map (i :: ·)
  | _ => none
def ins (x : Int) : List Int → List Int
  | [] => [x]
  | y :: r => if x ≤ y then x :: y :: r else y :: ins x r
def isort : List Int → List Int
  | [] => []
  | x :: r => ins x (isort r)
/-- the greatest, the least -/
def big1 (m : Int) : List Int → Int
  | [] => m
  | x :: r => big1 (if x > m then x else m) r
def sml1 (m : Int) : List Int → Int
  | [] => m
  | x :: r => sml1 (if x < m then x else m) r
def bltD (b : Blt) (xs : List D) : Option D :=
  match b, xs with
  | .len, [.list ys] => some (.int ys.length)
  | .len, [.tuple ys] => some (.int ys.length)
  | .len, [.str s] => if s.length ≤ lim then some (.int s.length) else none
  | .abs, [.int i] => some (.int (if i < 0 then -i else i))
  | .int, [.int i] => some (.int i)
  | .sum, [.list ys] => (intsO ys).map fun ns => .int ns.sum
  | .sum, [.tuple ys] => (intsO ys).map fun ns => .int ns.sum
  | .all, [.list ys] => (blsO ys).map fun bs => .bool (bs.all id)
  | .any, [.list ys] => (blsO ys).map fun bs => .bool (bs.any id)
  | .tuple, [.list ys] => some (.tuple ys)
  | .tuple, [.tuple ys] => some (.tuple ys)
  | .list, [.list ys] => some (.list ys)
  | .list, [.tuple ys] => some (.list ys)
  | .sorted, [.list ys] => (intsO ys).map fun ns => .list ((isort ns).map .int)
  | .min, [.int a, .int b] => some (.int (if b < a then b else a))
  | .max, [.int a, .int b] => some (.int (if b > a then b else a))
  | .min, [.list ys] => match intsO ys with
    | some (m :: r) => some (.int (sml1 m r))
    | _ => none
  | .max, [.list ys] => match intsO ys with
    | some (m :: r) => some (.int (big1 m r))
    | _ => none
  | _, _ => none
/-- the name of the type of data -/
def tyD : D → String
  | .none => "NoneType"
  | .bool _ => "bool"
  | .int _ => "int"
  | .str _ => "str"
  | .list _ => "list"
  | .tuple _ => "tuple"
  | .dict _ => "dict"
def tyNames : List String := ["int", "bool", "str", "list", "tuple", "dict"]
def isiD (d : D) (t : String) : Bool := tyD d == t || (t == "int" && tyD d == "bool")
def idxD (x : D) (i : Int) : Option D := match x with
  | .list ys => L2.atI ys i
  | .tuple ys => L2.atI ys i
  | .str s => if s.length ≤ lim then (L2.atI s.cps.toList i).map fun c => .str ⟨#[c]⟩ else none
  | _ => none
def cutD (xs : List D) (lo hi : Option Int) : List D := (xs.drop (HT.sIx xs.length 0 lo)).take (HT.sIx xs.length xs.length hi - HT.sIx xs.length 0 lo)
/-- a cut of a tuple that is not the whole: a new one; the whole: the same -/
def slcD (x : D) (lo hi : Option Int) : Option D := match x with
  | .list ys => some (.list (cutD ys lo hi))
  | .tuple ys => some (.tuple (cutD ys lo hi))
  | _ => none
def oInt : D → Option Int
  | .int i => some i
  | _ => none

/-! ### targets -/
mutual
def bindT : Tgt → D → Env → Option Env
  | .nm i, x, r => some (r.set i (some (.d x)))
  | .tp ts, .tuple xs, r => bindTs ts xs r
  | .tp _, _, _ => none
def bindTs : Tgts → List D → Env → Option Env
  | .nil, [], r => some r
  | .cons t ts, x :: xs, r => match bindT t x r with
    | some r1 => bindTs ts xs r1
    | none => none
  | _, _, _ => none
end
def wipeE (r : Env) : List Nat → Env
  | [] => r
  | i :: is => (wipeE r is).set i none
/-- what is walked stands as it stood -/
def stays (S : Store) : List (Nat × List D) → Bool
  | [] => true
  | (n, xs) :: r => (match S[n]? with | some (.lst ys) => sames xs ys | _ => false) && stays S r
def srcs : List Val → Store → Option (List (Nat × List D))
  | [], _ => some []
  | .loc n :: r, S => match S[n]?, srcs r S with
    | some (.lst xs), some q => some ((n, xs) :: q)
    | _, _ => none
  | _ :: r, S => srcs r S
structure Walk where
  items : List D
  src : List (Nat × List D)
def seqD (S : Store) : Val → Option (List D)
  | .scr ns => some (ns.map .int)
  | v => match der S v with
    | some (.list ys) => some ys
    | some (.tuple ys) => some ys
    | _ => none
def srcOf (S : Store) : Val → List (Nat × List D)
  | .loc n => match S[n]? with
    | some (.lst xs) => [(n, xs)]
    | _ => []
  | _ => []
def upto (a : Int) : Nat → List D
  | 0 => []
  | n + 1 => .int a :: upto (a + 1) n
def enumD (i : Nat) : List D → List D
  | [] => []
  | x :: r => .tuple [.int i, x] :: enumD (i + 1) r
def zipD : List D → List D → List D
  | x :: xs, y :: ys => .tuple [x, y] :: zipD xs ys
  | _, _ => []

/-! ### the evaluator -/
abbrev Calls := Str → List Val → Store → Res Val
abbrev Glob := Str → Option Val
section
variable (G : Glob) (C : Calls)
/-- the turns of a comprehension -/
def lcLoop (w : Walk) (base : Env) (t : Tgt) (c : Option (Env → Store → Res Val)) (e : Env → Store → Res Val) : List D → Store → List D → Res (List D)
  | [], S, acc => if stays S w.src = true then .ok acc S else .stuck
  | x :: xs, S, acc => if stays S w.src = true ∧ acc.length < lim then
      match bindT t x base with
      | none => .stuck
      | some r => (match c with
        | none => Res.ok true S
        | some f => (f r S).bind fun v S1 => Res.lift (tru S1 v) S1).bind fun b S1 =>
          if b then (e r S1).bind fun v S2 => match keep v with
            | some y => lcLoop w base t c e xs S2 (acc ++ [y])
            | none => .stuck
          else lcLoop w base t c e xs S1 acc
    else .stuck
def noErr {A : Type} (n : Nat) : Res A → Res A
  | .ok a S => if S.length = n then .ok a S else .stuck
  | _ => .stuck
mutual
def evE : ME → Env → Store → Res Val
  | .var i, r, S => match r[i]? with
    | some (some v) => .ok v S
    | _ => .stuck
  | .cint i, _, S => .ok (.d (.int i)) S
  | .cstr s, _, S => .ok (.d (.str s)) S
  | .cbl b, _, S => .ok (.d (.bool b)) S
  | .cnon, _, S => .ok (.d .none) S
  | .gl x, _, S => match G x with
    | some v => .ok v S
    | none => .stuck
  | .tup es, r, S => (evEs es r S).bind fun vs S1 => match keeps vs with
    | some xs => if xs.length ≤ lim then .ok (.d (.tuple xs)) S1 else .stuck
    | none => .stuck
  | .lst es, r, S => (evEs es r S).bind fun vs S1 => match keeps vs with
    | some xs => if xs.length ≤ lim then .ok (.d (.list xs)) S1 else .stuck
    | none => .stuck
  | .bin op a b, r, S => (evE a r S).bind fun x S1 => (evE b r S1).bind fun y S2 => match der S2 x, der S2 y with
    | some dx, some dy => Res.lift ((binD op dx dy).map Val.d) S2
    | _, _ => .stuck
  | .neg a, r, S => (evE a r S).bind fun x S1 => match x with
    | .d (.int i) => .ok (.d (.int (-i))) S1
    | _ => .stuck
  | .not a, r, S => (evE a r S).bind fun x S1 => match tru S1 x with
    | some b => .ok (.d (.bool (!b))) S1
    | none => .stuck
  | .and a b, r, S => (evE a r S).bind fun x S1 => match tru S1 x with
    | some true => evE b r S1
    | some false => .ok x S1
    | none => .stuck
  | .or a b, r, S => (evE a r S).bind fun x S1 => match tru S1 x with
    | some true => .ok x S1
    | some false => evE b r S1
    | none => .stuck
  | .cmp op a b, r, S => (evE a r S).bind fun x S1 => (evE b r S1).bind fun y S2 => match der S2 x, der S2 y with
    | some dx, some dy => Res.lift ((cmpD op dx dy).map fun b => Val.d (.bool b)) S2
    | _, _ => .stuck
  | .cmp2 op op' a b c, r, S => (evE a r S).bind fun x S1 => (evE b r S1).bind fun y S2 => match der S2 x, der S2 y with
    | some dx, some dy => match cmpD op dx dy with
      | some true => (evE c r S2).bind fun z S3 => match der S3 y, der S3 z with
        | some dy, some dz => Res.lift ((cmpD op' dy dz).map fun b => Val.d (.bool b)) S3
        | _, _ => .stuck
      | some false => .ok (.d (.bool false)) S2
      | none => .stuck
    | _, _ => .stuck
  | .ife c a b, r, S => (evE c r S).bind fun x S1 => match tru S1 x with
    | some true => evE a r S1
    | some false => evE b r S1
    | none => .stuck
  | .call f es, r, S => (evEs es r S).bind fun vs S1 => C f vs S1
  | .blt b es, r, S => (evEs es r S).bind fun vs S1 => match ders S1 vs with
    | some xs => Res.lift ((bltD b xs).map Val.d) S1
    | none => .stuck
  | .isi a ts, r, S => (evE a r S).bind fun x S1 => match der S1 x with
    | some d => .ok (.d (.bool (ts.any (isiD d)))) S1
    | none => .stuck
  | .isi1 a t, r, S => (evE a r S).bind fun x S1 => match der S1 x with
    | some d => .ok (.d (.bool (isiD d t))) S1
    | none => .stuck
  | .idx a i, r, S => (evE a r S).bind fun x S1 => (evE i r S1).bind fun y S2 => match der S2 x, y with
    | some dx, .d (.int k) => Res.lift ((idxD dx k).map Val.d) S2
    | _, _ => .stuck
  | .slc a lo hi, r, S => (evE a r S).bind fun x S1 => (evO lo r S1).bind fun l S2 => (evO hi r S2).bind fun h S3 => match der S3 x with
    | some dx => Res.lift ((slcD dx l h).map Val.d) S3
    | none => .stuck
  | .rev a, r, S => (evE a r S).bind fun x S1 => match der S1 x with
    | some (.list xs) => .ok (.d (.list xs.reverse)) S1
    | _ => .stuck
  | .lc own t it c e, r, S => (evI it r S).bind fun w S1 =>
    (noErr S1.length (lcLoop w (wipeE r own) t (evC c) (evE e) w.items S1 [])).bind fun xs S2 => .ok (.d (.list xs)) S2
def evEs : MEs → Env → Store → Res (List Val)
  | .nil, _, S => .ok [] S
  | .cons e es, r, S => (evE e r S).bind fun v S1 => (evEs es r S1).bind fun vs S2 => .ok (v :: vs) S2
def evO : MEo → Env → Store → Res (Option Int)
  | .none, _, S => .ok none S
  | .some e, r, S => (evE e r S).bind fun v S1 => match v with
    | .d (.int i) => .ok (some i) S1
    | _ => .stuck
def evC : MEo → Option (Env → Store → Res Val)
  | .none => none
  | .some e => some (evE e)
def evI : MI → Env → Store → Res Walk
  | .over e, r, S => (evE e r S).bind fun v S1 => match seqD S1 v with
    | some xs => .ok ⟨xs, srcOf S1 v⟩ S1
    | none => .stuck
  | .rng1 a, r, S => (evE a r S).bind fun v S1 => match v with
    | .d (.int i) => if -100000000 ≤ i ∧ i ≤ 100000000 then .ok ⟨upto 0 i.toNat, []⟩ S1 else .stuck
    | _ => .stuck
  | .rng2 a b, r, S => (evE a r S).bind fun v S1 => (evE b r S1).bind fun u S2 => match v, u with
    | .d (.int i), .d (.int j) => if (-100000000 ≤ i ∧ i ≤ 100000000) ∧ -100000000 ≤ j ∧ j ≤ 100000000 then .ok ⟨upto i (j - i).toNat, []⟩ S2 else .stuck
    | _, _ => .stuck
  | .enm e, r, S => (evE e r S).bind fun v S1 => match der S1 v with
    | some (.list xs) => .ok ⟨enumD 0 xs, srcOf S1 v⟩ S1
    | some (.tuple xs) => .ok ⟨enumD 0 xs, srcOf S1 v⟩ S1
    | _ => .stuck
  | .zip a b, r, S => (evE a r S).bind fun v S1 => (evE b r S1).bind fun u S2 => match der S2 v, der S2 u with
    | some (.list xs), some (.list ys) => .ok ⟨zipD xs ys, srcOf S2 v ++ srcOf S2 u⟩ S2
    | some (.tuple xs), some (.tuple ys) => .ok ⟨zipD xs ys, srcOf S2 v ++ srcOf S2 u⟩ S2
    | _, _ => .stuck
end

/-! ### statements -/
inductive SR where
  | stuck | err (e : Exn) (r : Env) (S : Store) | next (r : Env) (S : Store) | ret (v : Val) (fr : Bool) (S : Store) | brk (r : Env) (S : Store) | cont (r : Env) (S : Store)
def SR.of {A : Type} (r : Env) (x : Res A) (k : A → Store → SR) : SR := match x with
  | .stuck => .stuck
  | .err e S => .err e r S
  | .ok a S => k a S
@[simp] theorem SR.of_ok {A : Type} (r : Env) (a : A) (S : Store) (k : A → Store → SR) : SR.of r (.ok a S) k = k a S := rfl
@[simp] theorem SR.of_err {A : Type} (r : Env) (e : Exn) (S : Store) (k : A → Store → SR) : SR.of r (.err e S : Res A) k = .err e r S := rfl
@[simp] theorem SR.of_stuck {A : Type} (r : Env) (k : A → Store → SR) : SR.of r (.stuck : Res A) k = .stuck := rfl
def SR.seq (x : SR) (k : Env → Store → SR) : SR := match x with
  | .next r S => k r S
  | o => o
@[simp] theorem SR.seq_next (r : Env) (S : Store) (k : Env → Store → SR) : (SR.next r S).seq k = k r S := rfl
@[simp] theorem SR.seq_ret (v : Val) (b : Bool) (S : Store) (k : Env → Store → SR) : (SR.ret v b S).seq k = .ret v b S := rfl
@[simp] theorem SR.seq_err (e : Exn) (r : Env) (S : Store) (k : Env → Store → SR) : (SR.err e r S).seq k = .err e r S := rfl
@[simp] theorem SR.seq_brk (r : Env) (S : Store) (k : Env → Store → SR) : (SR.brk r S).seq k = .brk r S := rfl
@[simp] theorem SR.seq_cont (r : Env) (S : Store) (k : Env → Store → SR) : (SR.cont r S).seq k = .cont r S := rfl
/-- behind a turn: what was made within is let go -/
def killV (n : Nat) : Option Val → Option Val
  | some (.loc m) => if m < n then some (.loc m) else none
  | o => o
def gcE (n : Nat) (r : Env) : Env := r.map (killV n)
def forLoop (w : Walk) (t : Tgt) (n : Nat) (b : Env → Store → SR) : List D → Env → Store → SR
  | [], r, S => if stays S w.src = true then .next r S else .stuck
  | x :: xs, r, S => if stays S w.src = true then
      match bindT t x r with
      | none => .stuck
      | some r1 => match b r1 S with
        | .next r2 S2 => forLoop w t n b xs (gcE n r2) (S2.take n)
        | .cont r2 S2 => forLoop w t n b xs (gcE n r2) (S2.take n)
        | .brk r2 S2 => .next (gcE n r2) (S2.take n)
        | .stuck => .stuck
        | .err e r2 S2 => .err e r2 S2
        | .ret v f S2 => .ret v f S2
    else .stuck
@[irreducible] def fuel : Nat := 2 ^ 100000
def whlLoop (c : Env → Store → Res Val) (n : Nat) (b : Env → Store → SR) : Nat → Env → Store → SR
  | 0, _, _ => .stuck
  | f + 1, r, S => SR.of r (c r S) fun v S1 => match tru S1 v with
    | none => .stuck
    | some false => .next (gcE n r) (S1.take n)
    | some true => match b r S1 with
      | .next r2 S2 => whlLoop c n b f (gcE n r2) (S2.take n)
      | .cont r2 S2 => whlLoop c n b f (gcE n r2) (S2.take n)
      | .brk r2 S2 => .next (gcE n r2) (S2.take n)
      | .stuck => .stuck
      | .err e r2 S2 => .err e r2 S2
      | .ret v f S2 => .ret v f S2
/-- an expression that gives a new list (if it gives a list) -/
def isFr (fr : Str → Bool) : ME → Bool
  | .lst _ => true
  | .lc .. => true
  | .blt .list _ => true
  | .blt .sorted _ => true
  | .rev _ => true
  | .call f _ => fr f
  | _ => false
def noErrS : SR → SR
  | .err .. => .stuck
  | o => o
/-- which classes an except clause takes -/
abbrev Exm := Str → Str → Option Bool
def evH (xi : Exm) (e : Exn) : HE → Option D
  | .is f => if e.fld.isNone then (xi e.cls f).map PyData.bool else none
  | .and a b => match evH xi e a with
    | some (.bool true) => evH xi e b
    | some (.bool false) => some (.bool false)
    | _ => none
variable (fr : Str → Bool) (xm xi : Exm)
mutual
def evS : MS → Env → Store → SR
  | .asg i e, r, S => SR.of r (evE G C e r S) fun v S1 => .next (r.set i (some v)) S1
  | .asgN i e, r, S => if isFr fr e then SR.of r (evE G C e r S) fun v S1 => match v with
      | .d (.list xs) => .next (r.set i (some (.loc S1.length))) (S1 ++ [.lst xs])
      | _ => .stuck
    else .stuck
  | .asgT t e, r, S => SR.of r (evE G C e r S) fun v S1 => match v with
    | .d x => match bindT t x r with
      | some r1 => .next r1 S1
      | none => .stuck
    | _ => .stuck
  | .asg2 i j a b, r, S => SR.of r (evE G C a r S) fun v S1 => SR.of r (evE G C b r S1) fun u S2 => .next ((r.set i (some v)).set j (some u)) S2
  | .aug i op e, r, S => match r[i]? with
    | some (some (.d (.int a))) => SR.of r (evE G C e r S) fun v S1 => match v with
      | .d (.int b) => match augI op a b with
        | some z => .next (r.set i (some (.d (.int z)))) S1
        | none => .stuck
      | _ => .stuck
    | _ => .stuck
  | .setI x i e, r, S => SR.of r (evE G C e r S) fun v S1 => match r[x]? with
    | some (some (.loc n)) => SR.of r (evE G C i r S1) fun k S2 => match v, k, S2[n]? with
      | .d y, .d (.int z), some (.lst xs) => match L2.ixN xs.length z with
        | some j => .next r (S2.set n (.lst (xs.set j y)))
        | none => .stuck
      | _, _, _ => .stuck
    | _ => .stuck
  | .app x e, r, S => match r[x]? with
    | some (some (.loc n)) => SR.of r (evE G C e r S) fun v S1 => match v, S1[n]? with
      | .d y, some (.lst xs) => if xs.length < lim then .next r (S1.set n (.lst (xs ++ [y]))) else .stuck
      | _, _ => .stuck
    | _ => .stuck
  | .ife c a b, r, S => SR.of r (evE G C c r S) fun v S1 => match tru S1 v with
    | some true => evSs a r S1
    | some false => evSs b r S1
    | none => .stuck
  | .whl c b, r, S => whlLoop (evE G C c) S.length (evSs b) fuel r S
  | .for_ t it b, r, S => SR.of r (evI G C it r S) fun w S1 => forLoop w t S1.length (evSs b) w.items r S1
  | .ret e, r, S => SR.of r (evE G C e r S) fun v S1 => .ret v (isFr fr e) S1
  | .retN, _, S => .ret (.d .none) false S
  | .drop e, r, S => SR.of r (evE G C e r S) fun _ S1 => .next r S1
  | .rais c _, r, S => .err ⟨c, none⟩ r S
  | .try_ b c h, r, S => match evSs b r S with
    | .err e r1 S1 => match xm e.cls c with
      | some true => noErrS (evSs h r1 S1)
      | some false => .err e r1 S1
      | none => .stuck
    | o => o
  | .tryR b c i h, r, S => match evSs b r S with
    | .err e r1 S1 => match xm e.cls c with
      | some true => match evH xi e h with
        | some d => if i < r1.length then .ret (.d d) false S1 else .stuck
        | none => .stuck
      | some false => .err e r1 S1
      | none => .stuck
    | o => o
  | .asg3 i j k a b e, r, S => SR.of r (evE G C a r S) fun v S1 => SR.of r (evE G C b r S1) fun u S2 => SR.of r (evE G C e r S2) fun z S3 => .next (((r.set i (some v)).set j (some u)).set k (some z)) S3
  | .pass, r, S => .next r S
  | .brk, r, S => .brk r S
  | .cont, r, S => .cont r S
def evSs : MSs → Env → Store → SR
  | .nil, r, S => .next r S
  | .cons s ss, r, S => (evS s r S).seq fun r1 S1 => evSs ss r1 S1
end
end
/-! ### defs -/
structure MDef where
  np : Nat
  N : List Str
  fr : Bool
  body : MSs
structure Tab where
  defs : Str → Option MDef
  gl : Glob
  xm : Exm
  xi : Exm
def Tab.fr (T : Tab) (f : Str) : Bool := match T.defs f with
  | some m => m.fr
  | none => false
/-- what a def hands back: a list of its own is let go as it stands -/
def hand (n : Nat) (need : Bool) (v : Val) (fr : Bool) (S : Store) : Res Val :=
  match v with
  | .loc m => if m < n then (if need then .stuck else .ok (.loc m) (S.take n)) else match S[m]? with
    | some (.lst xs) => .ok (.d (.list xs)) (S.take n)
    | _ => .stuck
  | v => if need && !fr then .stuck else .ok v (S.take n)
def fin (n : Nat) (need : Bool) : SR → Res Val
  | .ret v f S => hand n need v f S
  | .next _ S => if need then .stuck else .ok (.d .none) (S.take n)
  | .err e _ S => .err e (S.take n)
  | _ => .stuck
def args0 (m : MDef) (vs : List Val) : Env := vs.map some ++ List.replicate (m.N.length - vs.length) none
def call (T : Tab) : Nat → Calls
  | 0 => fun _ _ _ => .stuck
  | k + 1 => fun f vs S => match T.defs f with
    | none => .stuck
    | some m => if vs.length = m.np then fin S.length m.fr (evSs T.gl (call T k) T.fr T.xm T.xi m.body (args0 m vs) S) else .stuck
end Rf
/-! What a value of the small language stands for in a heap; how heaps go on. -/
namespace Rf
open PySem L2
abbrev VStk := L2.St
/-- the world: where the places of the store stand -/
structure Wd where
  mu : Nat → Addr
  S : Store
  /-- lists that are being made -/
  rsv : Addr → Prop
def OutM (w : Wd) (a : Addr) : Prop := ∀ n, n < w.S.length → a ≠ w.mu n
structure Out (w : Wd) (a : Addr) : Prop where
  m : OutM w a
  r : ¬ w.rsv a
mutual
def RepD (K : PySem.W.Frag) (w : Wd) (H : Hp) : D → V → Prop
  | .none, v => v = .non
  | .bool b, v => v = .bl b
  | .int i, v => v = .int i
  | .str s, v => v = .str s
  | .list xs, v => ∃ a vs, v = .ref a ∧ H a = some (.lst vs) ∧ Out w a ∧ RepDs K w H xs vs
  | .tuple xs, v => ∃ a vs, v = .ref a ∧ SqT K H a vs ∧ RepDs K w H xs vs
  | .dict _, _ => False
def RepDs (K : PySem.W.Frag) (w : Wd) (H : Hp) : List D → List V → Prop
  | [], vs => vs = []
  | d :: ds, vs => ∃ v r, vs = v :: r ∧ RepD K w H d v ∧ RepDs K w H ds r
end
def RepC (K : PySem.W.Frag) (w : Wd) (H : Hp) (c : Cell) (a : Addr) : Prop := match c with
  | .lst xs => ∃ vs, H a = some (.lst vs) ∧ RepDs K w H xs vs
  | .dct _ => False
/-- the script: locked, or of the written part -/
def Lck (K : PySem.W.Frag) (H : Hp) (a : Addr) (vs : List V) : Prop :=
  (∃ o, H a = some (.frz o (.lst vs))) ∨
    ∃ (o : Obj) (its : Array Value) (n : Nat), K.lookup a = some o ∧ o.cls = .type "list" ∧ o.dict = none ∧ o.data = .seq its n ∧ its.size ≤ sizeLine ∧ Vals vs its.toList
def RepV (K : PySem.W.Frag) (mg : Str → Option Value) (w : Wd) (H : Hp) (x : Val) (v : V) : Prop := match x with
  | .d d => RepD K w H d v
  | .loc n => n < w.S.length ∧ v = .ref (w.mu n)
  | .scr ns => ∃ a, v = .ref a ∧ Lck K H a (ns.map V.int)
  | .fn f => ∃ a, mg f = some (.ref a) ∧ v = .ref a
structure Good (K : PySem.W.Frag) (w : Wd) (H : Hp) : Prop where
  cell : ∀ n c, w.S[n]? = some c → RepC K w H c (w.mu n)
  inj : ∀ i j, i < w.S.length → j < w.S.length → w.mu i = w.mu j → i = j
  rs : ∀ a, w.rsv a → OutM w a ∧ ∃ vs, H a = some (.lst vs)
structure Mv (w : Wd) (H : Hp) (w' : Wd) (H' : Hp) : Prop where
  le : w.S.length ≤ w'.S.length
  mp : ∀ n, n < w.S.length → w'.mu n = w.mu n
  fr : ∀ a o, H a = some o → OutM w a → H' a = some o
  nw : ∀ n, w.S.length ≤ n → n < w'.S.length → H (w'.mu n) = none
/-- more lists may be in the making -/
structure Tr (K : PySem.W.Frag) (w : Wd) (H : Hp) (w' : Wd) (H' : Hp) : Prop extends Mv w H w' H' where
  rc : ∀ a, w'.rsv a → w.rsv a ∨ H a = none
  gd : Good K w' H'
structure Step (K : PySem.W.Frag) (w : Wd) (H : Hp) (w' : Wd) (H' : Hp) : Prop extends Mv w H w' H' where
  rv : w'.rsv = w.rsv
  gd : Good K w' H'
section
variable {K : PySem.W.Frag} {mg : Str → Option Value} {w w1 w2 w' : Wd} {H H1 H2 H' : Hp}
theorem Good.isL (g : Good K w H) {n : Nat} (h : n < w.S.length) : ∃ vs, H (w.mu n) = some (.lst vs) := by
  have e : w.S[n]? = some w.S[n] := List.getElem?_eq_getElem h
  have q := g.cell n _ e
  cases hc : w.S[n] with
  | lst xs =>
    rw [hc] at q
    obtain ⟨vs, q, _⟩ := q
    exact ⟨vs, q⟩
  | dct kvs =>
    rw [hc] at q
    exact q.elim
/-- what is tracked otherwise than as a list that changes stands apart -/
theorem Good.out (g : Good K w H) {a : Addr} {o : HO} (h : H a = some o) (ho : ∀ vs, o ≠ .lst vs) : Out w a := by
  refine ⟨fun n hn e => ?_, fun hr => ?_⟩
  · obtain ⟨vs, q⟩ := g.isL hn
    rw [← e, h] at q
    exact ho vs (Option.some.inj q)
  · obtain ⟨_, vs, q⟩ := g.rs a hr
    rw [h] at q
    exact ho vs (Option.some.inj q)
theorem Good.outN (g : Good K w H) {a : Addr} (h : H a = none) : Out w a := by
  refine ⟨fun n hn e => ?_, fun hr => ?_⟩
  · obtain ⟨vs, q⟩ := g.isL hn
    rw [← e, h] at q
    cases q
  · obtain ⟨_, vs, q⟩ := g.rs a hr
    rw [h] at q
    cases q
theorem Step.tr (s : Step K w H w' H') : Tr K w H w' H' := ⟨s.toMv, fun a h => .inl (by rw [← s.rv]; exact h), s.gd⟩
theorem Mv.outM (s : Mv w H w' H') {a : Addr} {o : HO} (h : H a = some o) (ho : OutM w a) : OutM w' a := fun n hn e => by
  by_cases hl : n < w.S.length
  · rw [s.mp n hl] at e
    exact ho n hl e
  · have q := s.nw n (by omega) hn
    rw [← e, h] at q
    cases q
theorem Tr.out (s : Tr K w H w' H') {a : Addr} {o : HO} (h : H a = some o) (ho : Out w a) : Out w' a := ⟨s.outM h ho.m, fun z => by
  rcases s.rc a z with q | q
  · exact ho.r q
  · rw [h] at q
    cases q⟩
theorem Step.out (s : Step K w H w' H') {a : Addr} {o : HO} (h : H a = some o) (ho : Out w a) : Out w' a := s.tr.out h ho
theorem Mv.tup (s : Mv w H w' H') (g : Good K w H) {a : Addr} {vs : List V} (h : SqT K H a vs) : SqT K H' a vs := by
  rcases h with (h | ⟨o, h⟩) | h
  · exact .inl (.inl (s.fr a _ h (g.out h (by intro _ q; cases q)).m))
  · exact .inl (.inr ⟨o, s.fr a _ h (g.out h (by intro _ q; cases q)).m⟩)
  · exact .inr h
mutual
theorem Tr.repD (s : Tr K w H w' H') (g : Good K w H) : ∀ {d : D} {v : V}, RepD K w H d v → RepD K w' H' d v
  | .none, _, h => h
  | .bool _, _, h => h
  | .int _, _, h => h
  | .str _, _, h => h
  | .list xs, _, h => by
    unfold RepD at h ⊢
    obtain ⟨a, vs, e, h1, h2, h3⟩ := h
    exact ⟨a, vs, e, s.fr a _ h1 h2.m, s.out h1 h2, Tr.repDs s g h3⟩
  | .tuple xs, _, h => by
    unfold RepD at h ⊢
    obtain ⟨a, vs, e, h1, h3⟩ := h
    exact ⟨a, vs, e, s.tup g h1, Tr.repDs s g h3⟩
  | .dict _, _, h => by
    unfold RepD at h
    exact h.elim
theorem Tr.repDs (s : Tr K w H w' H') (g : Good K w H) : ∀ {ds : List D} {vs : List V}, RepDs K w H ds vs → RepDs K w' H' ds vs
  | [], _, h => h
  | d :: ds, _, h => by
    unfold RepDs at h ⊢
    obtain ⟨v, r, e, h1, h2⟩ := h
    exact ⟨v, r, e, Tr.repD s g h1, Tr.repDs s g h2⟩
end
theorem Tr.lck (s : Tr K w H w' H') (g : Good K w H) {a : Addr} {vs : List V} (h : Lck K H a vs) : Lck K H' a vs := by
  obtain ⟨o, h⟩ | h := h
  · exact .inl ⟨o, s.fr a _ h (g.out h (by intro _ q; cases q)).m⟩
  · exact .inr h
theorem Tr.repV (s : Tr K w H w' H') (g : Good K w H) {x : Val} {v : V} (h : RepV K mg w H x v) : RepV K mg w' H' x v := by
  cases x with
  | d d => exact s.repD g h
  | loc n => exact ⟨Nat.lt_of_lt_of_le h.1 s.le, by rw [s.mp n h.1]; exact h.2⟩
  | scr ns =>
    obtain ⟨a, e, h⟩ := h
    exact ⟨a, e, s.lck g h⟩
  | fn f => exact h
theorem Step.repD (s : Step K w H w' H') (g : Good K w H) {d : D} {v : V} (h : RepD K w H d v) : RepD K w' H' d v := s.tr.repD g h
theorem Step.repDs (s : Step K w H w' H') (g : Good K w H) {d : List D} {v : List V} (h : RepDs K w H d v) : RepDs K w' H' d v := s.tr.repDs g h
theorem Step.repV (s : Step K w H w' H') (g : Good K w H) {x : Val} {v : V} (h : RepV K mg w H x v) : RepV K mg w' H' x v := s.tr.repV g h
theorem Step.refl (g : Good K w H) : Step K w H w H := ⟨⟨Nat.le_refl _, fun _ _ => rfl, fun _ _ h _ => h, fun n h1 h2 => absurd h2 (by omega)⟩, rfl, g⟩
theorem Mv.back (g1 : Good K w1 H1) (a : Mv w H w1 H1) {p : Addr} (q : H1 p = none) : H p = none := by
  cases e : H p with
  | none => rfl
  | some o =>
    by_cases ho : OutM w p
    · rw [a.fr _ _ e ho] at q
      cases q
    · have ⟨m, hm⟩ : ∃ m, ¬ (m < w.S.length → p ≠ w.mu m) := Classical.not_forall.mp ho
      have hm1 : m < w.S.length := Classical.byContradiction fun z => hm fun y => absurd y z
      have hm2 : p = w.mu m := Classical.byContradiction fun z => hm fun _ => z
      obtain ⟨vs, z⟩ := g1.isL (Nat.lt_of_lt_of_le hm1 a.le)
      rw [a.mp m hm1, ← hm2, q] at z
      cases z
theorem Mv.trans (g1 : Good K w1 H1) (a : Mv w H w1 H1) (b : Mv w1 H1 w2 H2) : Mv w H w2 H2 where
  le := Nat.le_trans a.le b.le
  mp := fun n h => (b.mp n (Nat.lt_of_lt_of_le h a.le)).trans (a.mp n h)
  fr := fun x o h ho => b.fr x o (a.fr x o h ho) (a.outM h ho)
  nw := fun n h1 h2 => by
    by_cases hl : n < w1.S.length
    · rw [b.mp n hl]
      exact a.nw n h1 hl
    · exact a.back g1 (b.nw n (by omega) h2)
theorem Step.trans (g : Good K w H) (a : Step K w H w1 H1) (b : Step K w1 H1 w2 H2) : Step K w H w2 H2 := ⟨a.toMv.trans a.gd b.toMv, b.rv.trans a.rv, b.gd⟩
/-- what the one heap knows, the other one knows -/
def Ext (H H' : Hp) : Prop := ∀ (p : Addr) (u : HO), H p = some u → H' p = some u
theorem Ext.refl (H : Hp) : Ext H H := fun _ _ h => h
theorem Ext.trans (a : Ext H H1) (b : Ext H1 H2) : Ext H H2 := fun x o h => b x o (a x o h)
theorem Ext.new {p : Addr} {o : HO} (h : H p = none) : Ext H (upd H p o) := fun a u e => by
  rw [upd_ne (ne_of_none e h)]
  exact e
theorem Ext.sqT (e : Ext H H') {a : Addr} {vs : List V} (h : SqT K H a vs) : SqT K H' a vs := by
  rcases h with (h | ⟨o, h⟩) | h
  · exact .inl (.inl (e _ _ h))
  · exact .inl (.inr ⟨o, e _ _ h⟩)
  · exact .inr h
mutual
theorem Ext.repD (s : Ext H H') : ∀ {d : D} {v : V}, RepD K w H d v → RepD K w H' d v
  | .none, _, h => h
  | .bool _, _, h => h
  | .int _, _, h => h
  | .str _, _, h => h
  | .list xs, _, h => by
    unfold RepD at h ⊢
    obtain ⟨a, vs, e, h1, h2, h3⟩ := h
    exact ⟨a, vs, e, s a _ h1, h2, Ext.repDs s h3⟩
  | .tuple xs, _, h => by
    unfold RepD at h ⊢
    obtain ⟨a, vs, e, h1, h3⟩ := h
    exact ⟨a, vs, e, s.sqT h1, Ext.repDs s h3⟩
  | .dict _, _, h => by
    unfold RepD at h
    exact h.elim
theorem Ext.repDs (s : Ext H H') : ∀ {ds : List D} {vs : List V}, RepDs K w H ds vs → RepDs K w H' ds vs
  | [], _, h => h
  | d :: ds, _, h => by
    unfold RepDs at h ⊢
    obtain ⟨v, r, e, h1, h2⟩ := h
    exact ⟨v, r, e, Ext.repD s h1, Ext.repDs s h2⟩
end
theorem Ext.good (s : Ext H H') (g : Good K w H) : Good K w H' := ⟨fun n c e => by
  have q := g.cell n c e
  cases c with
  | lst xs =>
    obtain ⟨vs, q1, q2⟩ := q
    exact ⟨vs, s _ _ q1, s.repDs q2⟩
  | dct kvs => exact q, g.inj, fun a ha => by
  obtain ⟨h1, vs, h2⟩ := g.rs a ha
  exact ⟨h1, vs, s _ _ h2⟩⟩
theorem Ext.step (s : Ext H H') (g : Good K w H) : Step K w H w H' := ⟨⟨Nat.le_refl _, fun _ _ => rfl, fun a o h _ => s a o h, fun n h1 h2 => absurd h2 (by omega)⟩, rfl, s.good g⟩
/-- a world with fewer places -/
def Wd.take (w : Wd) (n : Nat) : Wd := ⟨w.mu, w.S.take n, w.rsv⟩
theorem outM_take {n : Nat} {a : Addr} (h : OutM w a) : OutM (w.take n) a := fun m hm => h m (by
  simp only [Wd.take, List.length_take] at hm
  omega)
theorem out_take {n : Nat} {a : Addr} (h : Out w a) : Out (w.take n) a := ⟨outM_take h.m, h.r⟩
mutual
theorem repD_take {n : Nat} : ∀ {d : D} {v : V}, RepD K w H d v → RepD K (w.take n) H d v
  | .none, _, h => h
  | .bool _, _, h => h
  | .int _, _, h => h
  | .str _, _, h => h
  | .list xs, _, h => by
    unfold RepD at h ⊢
    obtain ⟨a, vs, e, h1, h2, h3⟩ := h
    exact ⟨a, vs, e, h1, out_take h2, repDs_take h3⟩
  | .tuple xs, _, h => by
    unfold RepD at h ⊢
    obtain ⟨a, vs, e, h1, h3⟩ := h
    exact ⟨a, vs, e, h1, repDs_take h3⟩
  | .dict _, _, h => by
    unfold RepD at h
    exact h.elim
theorem repDs_take {n : Nat} : ∀ {ds : List D} {vs : List V}, RepDs K w H ds vs → RepDs K (w.take n) H ds vs
  | [], _, h => h
  | d :: ds, _, h => by
    unfold RepDs at h ⊢
    obtain ⟨v, r, e, h1, h2⟩ := h
    exact ⟨v, r, e, repD_take h1, repDs_take h2⟩
end
theorem Good.take (g : Good K w H) (n : Nat) : Good K (w.take n) H := ⟨fun m c e => by
  have e' : w.S[m]? = some c := by
    simp only [Wd.take] at e
    rw [List.getElem?_take] at e
    split at e
    · exact e
    · cases e
  have q := g.cell m c e'
  cases c with
  | lst xs =>
    obtain ⟨vs, q1, q2⟩ := q
    exact ⟨vs, q1, repDs_take q2⟩
  | dct kvs => exact q, fun i j hi hj => by
  simp only [Wd.take, List.length_take] at hi hj
  exact g.inj i j (by omega) (by omega), fun a ha => by
  obtain ⟨h1, h2⟩ := g.rs a ha
  exact ⟨outM_take h1, h2⟩⟩
/-- what was made since is let go -/
theorem Step.cut (s : Step K w H w' H') {n : Nat} (hn : n = w.S.length) : Step K w H (w'.take n) H' where
  le := by
    subst hn
    simp only [Wd.take, List.length_take]
    have := s.le
    omega
  mp := fun m h => s.mp m h
  fr := s.fr
  rv := s.rv
  nw := fun m h1 h2 => by
    subst hn
    simp only [Wd.take, List.length_take] at h2
    omega
  gd := s.gd.take n

/-! ### slots -/
structure EnvOk (K : PySem.W.Frag) (mg : Str → Option Value) (w : Wd) (H : Hp) (r : Env) (σ : VStk) : Prop where
  len : r.length = σ.length
  at_ : ∀ (i : Nat) (x : Val), r[i]? = some (some x) → ∃ v, σ[i]? = some (some v) ∧ RepV K mg w H x v
theorem EnvOk.tr {r : Env} {σ : VStk} (e : EnvOk K mg w H r σ) (s : Tr K w H w' H') (g : Good K w H) : EnvOk K mg w' H' r σ := ⟨e.len, fun i x h => by
  obtain ⟨v, h1, h2⟩ := e.at_ i x h
  exact ⟨v, h1, s.repV g h2⟩⟩
theorem EnvOk.step {r : Env} {σ : VStk} (e : EnvOk K mg w H r σ) (s : Step K w H w' H') (g : Good K w H) : EnvOk K mg w' H' r σ := e.tr s.tr g
theorem EnvOk.set {r : Env} {σ : VStk} (e : EnvOk K mg w H r σ) (i : Nat) {x : Val} {v : V} (h : RepV K mg w H x v) : EnvOk K mg w H (r.set i (some x)) (σ.set i (some v)) := by
  refine ⟨by rw [List.length_set, List.length_set]; exact e.len, fun j y hj => ?_⟩
  by_cases hij : i = j
  · subst hij
    rw [List.getElem?_set] at hj ⊢
    simp only [if_true] at hj ⊢
    split at hj
    · rename_i hlt
      cases hj
      rw [if_pos (by rw [← e.len]; exact hlt)]
      exact ⟨v, rfl, h⟩
    · cases hj
  · rw [List.getElem?_set_ne hij] at hj ⊢
    exact e.at_ j y hj
theorem EnvOk.forget {r : Env} {σ : VStk} (e : EnvOk K mg w H r σ) (i : Nat) : EnvOk K mg w H (r.set i none) (σ.set i none) := by
  refine ⟨by rw [List.length_set, List.length_set]; exact e.len, fun j y hj => ?_⟩
  by_cases hij : i = j
  · subst hij
    rw [List.getElem?_set] at hj
    simp only [if_true] at hj
    split at hj <;> cases hj
  · rw [List.getElem?_set_ne hij] at hj ⊢
    exact e.at_ j y hj
theorem EnvOk.wipe {r : Env} {σ : VStk} (e : EnvOk K mg w H r σ) : ∀ vs : List Nat, EnvOk K mg w H (wipeE r vs) (L2.wipe σ vs)
  | [] => e
  | i :: is => (EnvOk.wipe e is).forget i
theorem gcE_some {n i : Nat} {r : Env} {x : Val} (h : (gcE n r)[i]? = some (some x)) : r[i]? = some (some x) ∧ ∀ m, x = .loc m → m < n := by
  unfold gcE at h
  rw [List.getElem?_map] at h
  cases e : r[i]? with
  | none => rw [e] at h; cases h
  | some o =>
    rw [e] at h
    simp only [Option.map_some, Option.some.injEq] at h
    cases o with
    | none => cases h
    | some y =>
      cases y with
      | loc m =>
        unfold killV at h
        simp only at h
        split at h
        · cases h
          exact ⟨rfl, fun k q => by cases q; assumption⟩
        · cases h
      | d z => cases h; exact ⟨rfl, fun _ q => nomatch q⟩
      | scr z => cases h; exact ⟨rfl, fun _ q => nomatch q⟩
      | fn z => cases h; exact ⟨rfl, fun _ q => nomatch q⟩
theorem EnvOk.gc {r : Env} {σ : VStk} (e : EnvOk K mg w H r σ) {n : Nat} (hn : n ≤ w.S.length) : EnvOk K mg (w.take n) H (gcE n r) σ := by
  refine ⟨by unfold gcE; rw [List.length_map]; exact e.len, fun i x h => ?_⟩
  obtain ⟨h1, h2⟩ := gcE_some h
  obtain ⟨v, q1, q2⟩ := e.at_ i x h1
  refine ⟨v, q1, ?_⟩
  cases x with
  | d z => exact repD_take q2
  | loc m =>
    refine ⟨?_, q2.2⟩
    have := h2 m rfl
    simp only [Wd.take, List.length_take]
    omega
  | scr z => exact q2
  | fn z => exact q2

/-! ### results -/
def RepX (K : PySem.W.Frag) (mg : Str → Option Value) (w : Wd) (H : Hp) (e : Exn) (c : Value) (dx : Option Addr) : Prop :=
  ((∃ C, mg e.cls = some (.ref C) ∧ c = .ref C) ∧ (e.fld = none → dx = none)) ∧ ∀ n d, e.fld = some (n, d) → ∃ dd v, dx = some dd ∧ H dd = some (.xd [(n, v)]) ∧ RepD K w H d v
def OutR {A : Type} (K : PySem.W.Frag) (mg : Str → Option Value) (E : XK) (w : Wd) (H : Hp) (r : Res A) (P : A → Wd → Hp → Prop) : Prop := match r with
  | .stuck => False
  | .ok x S' => ∀ w' H', w'.S = S' → Step K w H w' H' → P x w' H'
  | .err e S' => ∀ w' H' c dx, w'.S = S' → Step K w H w' H' → RepX K mg w' H' e c dx → E c dx H'
/-- a heap without one object -/
def rm (H : Hp) (p : Addr) : Hp := fun a => if a = p then none else H a
theorem rm_same {p : Addr} : rm H p p = none := by unfold rm; rw [if_pos rfl]
theorem rm_ne {p a : Addr} (h : a ≠ p) : rm H p a = H a := by unfold rm; rw [if_neg h]
theorem rm_upd {p : Addr} {o : HO} (h : H p = none) : rm (upd H p o) p = H := by
  funext a
  by_cases e : a = p
  · subst e
    rw [rm_same, h]
  · rw [rm_ne e, upd_ne e]
theorem upd_rm {p : Addr} {o : HO} (h : H p = some o) : upd (rm H p) p o = H := by
  funext a
  by_cases e : a = p
  · subst e
    rw [upd_same, h]
  · rw [upd_ne e, rm_ne e]
/-- a value, a new list if fr says so: nothing else knows of it -/
def RepF (K : PySem.W.Frag) (mg : Str → Option Value) (fr : Bool) (H0 : Hp) (w' : Wd) (H' : Hp) (x : Val) (v : V) : Prop :=
  RepV K mg w' H' x v ∧ (fr = true → ∀ xs, x = .d (.list xs) → ∃ p vs, v = .ref p ∧ H0 p = none ∧ H' p = some (.lst vs) ∧ Good K w' (rm H' p) ∧ RepDs K w' (rm H' p) xs vs)
theorem RepF.low {fr : Bool} {H0 H0' : Hp} {x : Val} {v : V} (h : RepF K mg fr H0 w' H' x v) : RepF K mg false H0' w' H' x v := ⟨h.1, fun z => nomatch z⟩
variable {E : XK}
theorem OutR.mono {A : Type} {r : Res A} {P Q : A → Wd → Hp → Prop} (h : OutR K mg E w H r P) (k : ∀ x w' H', Step K w H w' H' → P x w' H' → Q x w' H') : OutR K mg E w H r Q := by
  cases r with
  | stuck => exact h
  | ok x S => exact fun w' H' e s => k x w' H' s (h w' H' e s)
  | err e S => exact h
theorem OutR.bind {A B : Type} (g : Good K w H) {r : Res A} {k : A → Store → Res B} {P : B → Wd → Hp → Prop} (h : OutR K mg E w H (r.bind k) P) :
    OutR K mg E w H r fun x w1 H1 => OutR K mg E w1 H1 (k x w1.S) P := by
  cases r with
  | stuck => exact h
  | err e S => exact h
  | ok x S =>
    intro w1 H1 e s
    subst e
    have h' : OutR K mg E w H (k x w1.S) P := h
    cases hk : k x w1.S with
    | stuck => rw [hk] at h'; exact h'
    | ok y S2 =>
      rw [hk] at h'
      exact fun w2 H2 e2 s2 => h' w2 H2 e2 (s.trans g s2)
    | err y S2 =>
      rw [hk] at h'
      exact fun w2 H2 c dx e2 s2 rx => h' w2 H2 c dx e2 (s.trans g s2) rx
/-- the reading of an expression, of arguments -/
def rdE (K : PySem.W.Frag) (mg : Str → Option Value) (fr : Bool) (f : Env → Store → Res Val) (W : WX) : TE := fun σ H Q => ∃ w r, Good K w H ∧ EnvOk K mg w H r σ ∧
  OutR K mg (fun c dx H' => W c dx σ H') w H (f r w.S) fun x w' H' => ∀ v, RepF K mg fr H w' H' x v → Q v H'
def RepVs (K : PySem.W.Frag) (mg : Str → Option Value) (w : Wd) (H : Hp) : List Val → List V → Prop
  | [], vs => vs = []
  | x :: xs, vs => ∃ v r, vs = v :: r ∧ RepV K mg w H x v ∧ RepVs K mg w H xs r
def rdA (K : PySem.W.Frag) (mg : Str → Option Value) (f : Env → Store → Res (List Val)) (W : WX) : TA := fun σ H Q => ∃ w r, Good K w H ∧ EnvOk K mg w H r σ ∧
  OutR K mg (fun c dx H' => W c dx σ H') w H (f r w.S) fun xs w' H' => ∀ vs, RepVs K mg w' H' xs vs → Q vs H'
def rdT (K : PySem.W.Frag) (mg : Str → Option Value) (f : Env → Store → Res Val) (W : WX) : TT := fun σ H Q => ∃ w r, Good K w H ∧ EnvOk K mg w H r σ ∧
  OutR K mg (fun c dx H' => W c dx σ H') w H (f r w.S) fun x w' H' => match tru w'.S x with
    | some b => Q b H'
    | none => False
theorem RepVs.step (s : Step K w H w' H') (g : Good K w H) : ∀ {xs : List Val} {vs : List V}, RepVs K mg w H xs vs → RepVs K mg w' H' xs vs
  | [], _, h => h
  | x :: xs, _, h => by
    obtain ⟨v, r, e, h1, h2⟩ := h
    exact ⟨v, r, e, s.repV g h1, RepVs.step s g h2⟩
end
end Rf
/-! Operations on data against the rules of the machine. -/
namespace Rf
open PySem PySem.Spec PyProof.Rows L2
/-- a value read as data: as it stands now -/
def RepR (K : PySem.W.Frag) (w : Wd) (H : Hp) (d : D) (v : V) : Prop := match d with
  | .list xs => ∃ a vs, v = .ref a ∧ SqL K H a vs ∧ (H a = some (.lst vs)) ∧ RepDs K w H xs vs
  | d => RepD K w H d v
section
variable {K : PySem.W.Frag} {mg : Str → Option Value} {w w1 w' : Wd} {H H1 H' : Hp}
theorem RepD.r {d : D} {v : V} (h : RepD K w H d v) : RepR K w H d v := by
  cases d with
  | list xs =>
    unfold RepD at h
    obtain ⟨a, vs, e, h1, _, h3⟩ := h
    exact ⟨a, vs, e, .of h1, h1, h3⟩
  | none => exact h
  | bool _ => exact h
  | int _ => exact h
  | str _ => exact h
  | tuple _ => exact h
  | dict _ => exact h
theorem der_rep (g : Good K w H) {x : Val} {v : V} {d : D} (h : RepV K mg w H x v) (e : der w.S x = some d) : RepR K w H d v := by
  cases x with
  | d y =>
    cases e
    exact RepD.r h
  | loc n =>
    unfold der at e
    simp only at e
    cases hc : w.S[n]? with
    | none => rw [hc] at e; cases e
    | some c =>
      rw [hc] at e
      cases c with
      | dct _ => cases e
      | lst xs =>
        cases e
        obtain ⟨vs, h1, h2⟩ := g.cell n _ hc
        exact ⟨_, vs, h.2, .of h1, h1, h2⟩
  | scr _ => cases e
  | fn _ => cases e
mutual
theorem RepD.dp : ∀ {d : D} {v : V}, RepD K w H d v → Dp K H v d
  | .none, _, h => by
    unfold RepD at h
    subst h
    exact .non
  | .bool _, _, h => by
    unfold RepD at h
    subst h
    exact .bl _
  | .int _, _, h => by
    unfold RepD at h
    subst h
    exact .int _
  | .str _, _, h => by
    unfold RepD at h
    subst h
    exact .str _
  | .list xs, _, h => by
    unfold RepD at h
    obtain ⟨a, vs, e, h1, _, h3⟩ := h
    subst e
    exact .lst (.of h1) (RepDs.dp h3)
  | .tuple xs, _, h => by
    unfold RepD at h
    obtain ⟨a, vs, e, h1, h3⟩ := h
    subst e
    exact .tup h1 (RepDs.dp h3)
  | .dict _, _, h => by
    unfold RepD at h
    exact h.elim
theorem RepDs.dp : ∀ {ds : List D} {vs : List V}, RepDs K w H ds vs → DpAll K H vs ds
  | [], _, h => by
    unfold RepDs at h
    subst h
    exact .nil
  | d :: ds, _, h => by
    unfold RepDs at h
    obtain ⟨v, r, e, h1, h2⟩ := h
    subst e
    exact .cons (RepD.dp h1) (RepDs.dp h2)
end
theorem RepR.dp {d : D} {v : V} (h : RepR K w H d v) : Dp K H v d := by
  cases d with
  | list xs =>
    obtain ⟨a, vs, e, h1, _, h3⟩ := h
    subst e
    exact .lst h1 h3.dp
  | none => exact RepD.dp (w := w) h
  | bool _ => exact RepD.dp (w := w) h
  | int _ => exact RepD.dp (w := w) h
  | str _ => exact RepD.dp (w := w) h
  | tuple _ => exact RepD.dp (w := w) h
  | dict _ => exact RepD.dp (w := w) h
theorem RepDs.len : ∀ {ds : List D} {vs : List V}, RepDs K w H ds vs → ds.length = vs.length
  | [], _, h => by
    unfold RepDs at h
    subst h
    rfl
  | d :: ds, _, h => by
    unfold RepDs at h
    obtain ⟨v, r, e, h1, h2⟩ := h
    subst e
    rw [List.length_cons, List.length_cons, RepDs.len h2]
theorem RepDs.append : ∀ {ds es : List D} {vs us : List V}, RepDs K w H ds vs → RepDs K w H es us → RepDs K w H (ds ++ es) (vs ++ us)
  | [], _, _, _, h, k => by
    unfold RepDs at h
    subst h
    exact k
  | d :: ds, _, _, _, h, k => by
    unfold RepDs at h
    obtain ⟨v, r, e, h1, h2⟩ := h
    subst e
    show RepDs K w H (d :: (ds ++ _)) _
    unfold RepDs
    exact ⟨v, _, rfl, h1, RepDs.append h2 k⟩
theorem RepDs.get : ∀ {ds : List D} {vs : List V} {i : Nat} {d : D}, RepDs K w H ds vs → ds[i]? = some d → ∃ v, vs[i]? = some v ∧ RepD K w H d v
  | [], _, _, _, _, e => by simp at e
  | d :: ds, _, 0, x, h, e => by
    unfold RepDs at h
    obtain ⟨v, r, q, h1, h2⟩ := h
    subst q
    simp at e
    subst e
    exact ⟨v, rfl, h1⟩
  | d :: ds, _, i + 1, x, h, e => by
    unfold RepDs at h
    obtain ⟨v, r, q, h1, h2⟩ := h
    subst q
    simp only [List.getElem?_cons_succ] at e ⊢
    exact RepDs.get h2 e
theorem RepDs.take : ∀ {ds : List D} {vs : List V} (n : Nat), RepDs K w H ds vs → RepDs K w H (ds.take n) (vs.take n)
  | [], _, n, h => by
    unfold RepDs at h
    subst h
    simp [RepDs]
  | d :: ds, _, 0, h => by simp [RepDs]
  | d :: ds, _, n + 1, h => by
    unfold RepDs at h
    obtain ⟨v, r, q, h1, h2⟩ := h
    subst q
    simp only [List.take_succ_cons, RepDs]
    exact ⟨_, _, rfl, h1, RepDs.take n h2⟩
theorem RepDs.drop : ∀ {ds : List D} {vs : List V} (n : Nat), RepDs K w H ds vs → RepDs K w H (ds.drop n) (vs.drop n)
  | [], _, n, h => by
    unfold RepDs at h
    subst h
    simp [RepDs]
  | d :: ds, _, 0, h => h
  | d :: ds, _, n + 1, h => by
    unfold RepDs at h
    obtain ⟨v, r, q, h1, h2⟩ := h
    subst q
    simp only [List.drop_succ_cons]
    exact RepDs.drop n h2
theorem RepDs.set {d : D} {v : V} (k : RepD K w H d v) : ∀ {ds : List D} {vs : List V} (n : Nat), RepDs K w H ds vs → RepDs K w H (ds.set n d) (vs.set n v)
  | [], _, n, h => by
    unfold RepDs at h
    subst h
    simp [RepDs]
  | c :: ds, _, 0, h => by
    unfold RepDs at h
    obtain ⟨u, r, q, h1, h2⟩ := h
    subst q
    simp only [List.set_cons_zero, RepDs]
    exact ⟨_, _, rfl, k, h2⟩
  | c :: ds, _, n + 1, h => by
    unfold RepDs at h
    obtain ⟨u, r, q, h1, h2⟩ := h
    subst q
    simp only [List.set_cons_succ, RepDs]
    exact ⟨_, _, rfl, h1, RepDs.set k n h2⟩
theorem RepDs.reverse : ∀ {ds : List D} {vs : List V}, RepDs K w H ds vs → RepDs K w H ds.reverse vs.reverse
  | [], _, h => by
    unfold RepDs at h
    subst h
    simp [RepDs]
  | d :: ds, _, h => by
    unfold RepDs at h
    obtain ⟨v, r, q, h1, h2⟩ := h
    subst q
    rw [List.reverse_cons, List.reverse_cons]
    refine RepDs.append (RepDs.reverse h2) ?_
    simp only [RepDs]
    exact ⟨v, [], rfl, h1, rfl⟩
theorem RepDs.rep {ds : List D} {vs : List V} (h : RepDs K w H ds vs) : ∀ k : Nat, RepDs K w H (List.replicate k ds).flatten (List.replicate k vs).flatten
  | 0 => by simp [RepDs]
  | k + 1 => by
    rw [List.replicate_succ, List.replicate_succ, List.flatten_cons, List.flatten_cons]
    exact RepDs.append h (RepDs.rep h k)
theorem RepDs.ofInts : ∀ (ns : List Int), RepDs K w H (ns.map PyData.int) (ns.map V.int)
  | [] => by simp [RepDs]
  | n :: ns => by
    simp only [List.map_cons, RepDs]
    exact ⟨_, _, rfl, by simp [RepD], RepDs.ofInts ns⟩
theorem RepDs.ints : ∀ {ds : List D} {vs : List V} {ns : List Int}, RepDs K w H ds vs → intsO ds = some ns → vs = ns.map V.int
  | [], _, _, h, e => by
    unfold RepDs at h
    subst h
    cases e
    rfl
  | d :: ds, _, ns, h, e => by
    unfold RepDs at h
    obtain ⟨v, r, q, h1, h2⟩ := h
    subst q
    cases d <;> simp only [intsO, Option.map_eq_some_iff, reduceCtorEq] at e
    obtain ⟨ms, e1, e2⟩ := e
    subst e2
    simp only [RepD] at h1
    rw [h1, RepDs.ints h2 e1]
    rfl
theorem RepDs.bls : ∀ {ds : List D} {vs : List V} {ns : List Bool}, RepDs K w H ds vs → blsO ds = some ns → vs = ns.map V.bl
  | [], _, _, h, e => by
    unfold RepDs at h
    subst h
    cases e
    rfl
  | d :: ds, _, ns, h, e => by
    unfold RepDs at h
    obtain ⟨v, r, q, h1, h2⟩ := h
    subst q
    cases d <;> simp only [blsO, Option.map_eq_some_iff, reduceCtorEq] at e
    obtain ⟨ms, e1, e2⟩ := e
    subst e2
    simp only [RepD] at h1
    rw [h1, RepDs.bls h2 e1]
    rfl
theorem lim_line {n : Nat} (h : n ≤ lim) : n ≤ sizeLine := by
  rw [sizeLine_eq]
  unfold lim at h
  omega
theorem lim_lt {n : Nat} (h : n < lim) : n < sizeLine := by
  rw [sizeLine_eq]
  unfold lim at h
  omega
/-- a new tuple -/
theorem rep_newT (g : Good K w H) {p : Addr} (hp : H p = none) {xs : List D} {vs : List V} (h : RepDs K w H xs vs) : RepD K w (upd H p (.tup vs)) (.tuple xs) (.ref p) := by
  unfold RepD
  exact ⟨p, vs, rfl, .of upd_same, (Ext.new hp).repDs h⟩
/-- a new list -/
theorem rep_newL (g : Good K w H) {p : Addr} (hp : H p = none) {xs : List D} {vs : List V} (h : RepDs K w H xs vs) : RepD K w (upd H p (.lst vs)) (.list xs) (.ref p) := by
  unfold RepD
  exact ⟨p, vs, rfl, upd_same, g.outN hp, (Ext.new hp).repDs h⟩
/-- what an operation's reading needs -/
def Op2 (K : PySem.W.Frag) (r : R2) (f : D → D → Option D) : Prop := ∀ (w : Wd) (H : Hp) (d e z : D) (v u : V) (Q : VK), Good K w H → RepR K w H d v → RepR K w H e u → f d e = some z →
  (∀ x H', Ext H H' → RepD K w H' z x → Q x H') → r v u H Q
theorem Op2.never {f : D → D → Option D} (h : ∀ d e, f d e = none) : Op2 K (fun _ _ _ _ => False) f := fun w H d e z v u Q _ _ _ q => by
  rw [h] at q
  cases q
theorem opNever {X : Cx} {f : Value → Value → Sem Value} : OpR X f (fun _ _ _ _ => False) := fun _ _ _ _ _ _ _ _ _ _ _ _ h => h.elim
/-- // by any divisor that is not 0 and not of very many bits -/
def CDivX (_ j : Int) : Prop := j ≠ 0 ∧ j.natAbs.log2 < 9000
theorem op_fdivX {X : Cx} : OpR X (binaryOp .FloorDiv) (rI CDivX fun i j => .int (i.fdiv j)) := opI fun _ _ _ _ _ _ _ hc q => floordiv_int hc.1 q (.inl (PyProof.noPylong_of_log2 hc.2))
theorem bin_ok (X : Cx) (op : Operator) : ∃ r, OpR X (binaryOp op) r ∧ Op2 X.K r (binD op) := by
  cases op with
  | Add =>
    refine ⟨_, op_add.or (op_add_str.or (op_catA.or op_cat)), fun w H d e z v u Q g hd he hz k => ?_⟩
    cases d <;> cases e <;> simp only [binD, Option.some.injEq, reduceCtorEq, Option.ite_none_right_eq_some] at hz
    · subst hz
      simp only [RepR, RepD] at hd he
      subst hd he
      exact .inl ⟨_, _, rfl, rfl, k _ H (Ext.refl H) (by simp [RepD])⟩
    · obtain ⟨hl, hz⟩ := hz
      subst hz
      simp only [RepR, RepD] at hd he
      subst hd he
      exact .inr (.inl ⟨_, _, rfl, rfl, lim_line hl, k _ H (Ext.refl H) (by simp [RepD])⟩)
    · obtain ⟨hl, hz⟩ := hz
      subst hz
      obtain ⟨a, vs, e1, _, h1, h2⟩ := hd
      obtain ⟨b, us, e2, _, h3, h4⟩ := he
      subst e1 e2
      exact .inr (.inr (.inr ⟨a, b, vs, us, rfl, rfl, h1, h3, lim_line (by rw [← h2.len, ← h4.len]; exact hl), fun p hp => k _ _ (Ext.new hp) (rep_newL g hp (h2.append h4))⟩))
    · obtain ⟨hl, hz⟩ := hz
      subst hz
      simp only [RepR, RepD] at hd he
      obtain ⟨a, vs, e1, h1, h2⟩ := hd
      obtain ⟨b, us, e2, h3, h4⟩ := he
      subst e1 e2
      refine .inr (.inr (.inl ⟨a, b, vs, us, rfl, rfl, h1, h3, lim_line (by rw [← h2.len, ← h4.len]; exact hl), fun hv => ?_, fun hv hu => ?_, fun _ hu p hp => k _ _ (Ext.new hp) (rep_newT g hp (h2.append h4))⟩))
      · refine k _ H (Ext.refl H) ?_
        rw [hv] at h2
        have := h2.len
        simp only [List.length_nil, List.length_eq_zero_iff] at this
        subst this
        rw [List.nil_append]
        simp only [RepD]
        exact ⟨b, us, rfl, h3, h4⟩
      · refine k _ H (Ext.refl H) ?_
        rw [hu] at h4
        have := h4.len
        simp only [List.length_nil, List.length_eq_zero_iff] at this
        subst this
        rw [List.append_nil]
        simp only [RepD]
        exact ⟨a, vs, rfl, h1, h2⟩
  | Sub =>
    refine ⟨_, op_sub, fun w H d e z v u Q g hd he hz k => ?_⟩
    cases d <;> cases e <;> simp only [binD, Option.some.injEq, reduceCtorEq, Option.ite_none_right_eq_some] at hz
    subst hz
    simp only [RepR, RepD] at hd he
    subst hd he
    exact ⟨_, _, rfl, rfl, k _ H (Ext.refl H) (by simp [RepD])⟩
  | Mult =>
    refine ⟨_, op_mulW.or (op_rep.or op_repT), fun w H d e z v u Q g hd he hz k => ?_⟩
    cases d <;> cases e <;> simp only [binD, Option.some.injEq, reduceCtorEq, Option.ite_none_right_eq_some] at hz
    · obtain ⟨hl, hz⟩ := hz
      subst hz
      simp only [RepR, RepD] at hd he
      subst hd he
      exact .inl ⟨_, _, rfl, rfl, hl, k _ H (Ext.refl H) (by simp [RepD])⟩
    · obtain ⟨⟨h1, h2, hl⟩, hz⟩ := hz
      subst hz
      obtain ⟨a, vs, e1, _, h3, h4⟩ := hd
      simp only [RepR, RepD] at he
      subst e1 he
      exact .inr (.inl ⟨a, _, vs, rfl, rfl, h3, by omega, by omega, lim_line (by rw [← h4.len]; exact hl), fun p hp => k _ _ (Ext.new hp) (rep_newL g hp (h4.rep _))⟩)
    · obtain ⟨⟨h0, h1, h2, hl⟩, hz⟩ := hz
      subst hz
      simp only [RepR, RepD] at hd he
      obtain ⟨a, vs, e1, h3, h4⟩ := hd
      subst e1 he
      exact .inr (.inr ⟨a, _, vs, rfl, rfl, h3, (fun z => h0 (by have := h4.len; rw [z] at this; exact List.eq_nil_of_length_eq_zero this)), h1, h2, by rw [← h4.len]; exact hl, fun p hp => k _ _ (Ext.new hp) (rep_newT g hp (h4.rep _))⟩)
  | FloorDiv =>
    refine ⟨_, op_fdivX, fun w H d e z v u Q g hd he hz k => ?_⟩
    cases d <;> cases e <;> simp only [binD, Option.some.injEq, reduceCtorEq, Option.ite_none_right_eq_some] at hz
    obtain ⟨hl, hz⟩ := hz
    subst hz
    simp only [RepR, RepD] at hd he
    subst hd he
    exact ⟨_, _, rfl, rfl, hl, k _ H (Ext.refl H) (by simp [RepD])⟩
  | Mod =>
    refine ⟨_, op_modN, fun w H d e z v u Q g hd he hz k => ?_⟩
    cases d <;> cases e <;> simp only [binD, Option.some.injEq, reduceCtorEq, Option.ite_none_right_eq_some] at hz
    obtain ⟨hl, hz⟩ := hz
    subst hz
    simp only [RepR, RepD] at hd he
    subst hd he
    exact ⟨_, _, rfl, rfl, hl, k _ H (Ext.refl H) (by simp [RepD])⟩
  | MatMult => exact ⟨_, opNever, Op2.never fun d e => by cases d <;> cases e <;> rfl⟩
  | Div => exact ⟨_, opNever, Op2.never fun d e => by cases d <;> cases e <;> rfl⟩
  | Pow => exact ⟨_, opNever, Op2.never fun d e => by cases d <;> cases e <;> rfl⟩
  | LShift => exact ⟨_, opNever, Op2.never fun d e => by cases d <;> cases e <;> rfl⟩
  | RShift => exact ⟨_, opNever, Op2.never fun d e => by cases d <;> cases e <;> rfl⟩
  | BitOr => exact ⟨_, opNever, Op2.never fun d e => by cases d <;> cases e <;> rfl⟩
  | BitXor => exact ⟨_, opNever, Op2.never fun d e => by cases d <;> cases e <;> rfl⟩
  | BitAnd => exact ⟨_, opNever, Op2.never fun d e => by cases d <;> cases e <;> rfl⟩

/-! ### comparisons -/
def rInT (K : PySem.W.Frag) : R2 := fun x y H Q => ∃ d ds, Dp K H x d ∧ Dp K H y (.tuple ds) ∧ SeqAt.shaped d = true ∧ SeqAt.shaped (.tuple ds) = true ∧ Q (.bl (ds.any fun z => PyData.eqv z d)) H
def rNotInT (K : PySem.W.Frag) : R2 := fun x y H Q => ∃ d ds, Dp K H x d ∧ Dp K H y (.tuple ds) ∧ SeqAt.shaped d = true ∧ SeqAt.shaped (.tuple ds) = true ∧ Q (.bl (!ds.any fun z => PyData.eqv z d)) H
theorem op_inT {X : Cx} (hu : X.A.units + 65 < cLine) : OpR X (compareOp .In) (rInT X.K) := by
  intro pins s σ H x y v u Q I rx ry h
  obtain ⟨d, ds, hd, he, sd, se, q⟩ := h
  obtain ⟨as, r1⟩ := Dp.reads I d x v hd rx
  obtain ⟨bs, r2⟩ := Dp.reads I (.tuple ds) y u he ry
  exact SeqAt.in_tuple_reads r2 r1 (SeqAt.canLay_of_shaped se) (SeqAt.canLay_of_shaped sd) (room_in_shaped sd hu) ⟨.bl _, H, I, rfl, q⟩
theorem op_notInT {X : Cx} (hu : X.A.units + 65 < cLine) : OpR X (compareOp .NotIn) (rNotInT X.K) := by
  intro pins s σ H x y v u Q I rx ry h
  obtain ⟨d, ds, hd, he, sd, se, q⟩ := h
  obtain ⟨as, r1⟩ := Dp.reads I d x v hd rx
  obtain ⟨bs, r2⟩ := Dp.reads I (.tuple ds) y u he ry
  exact SeqAt.notIn_tuple_reads r2 r1 (SeqAt.canLay_of_shaped se) (SeqAt.canLay_of_shaped sd) (room_in_shaped sd hu) ⟨.bl _, H, I, rfl, q⟩
def Cmp2 (K : PySem.W.Frag) (r : R2) (f : D → D → Option Bool) : Prop := ∀ (w : Wd) (H : Hp) (d e : D) (z : Bool) (v u : V) (Q : VK), Good K w H → RepR K w H d v → RepR K w H e u → f d e = some z → Q (.bl z) H → r v u H Q
theorem cmp_ok (X : Cx) (hu : X.A.units + 65 < cLine) (op : CmpOp) : ∃ r, OpR X (compareOp op) r ∧ Cmp2 X.K r (cmpD op) := by
  cases op with
  | Eq =>
    refine ⟨_, op_eqD (by omega), fun w H d e z v u Q g hd he hz k => ?_⟩
    simp only [cmpD, Option.some.injEq, reduceCtorEq, Option.ite_none_right_eq_some, Bool.and_eq_true, shp] at hz
    obtain ⟨⟨h1, h2⟩, hz⟩ := hz
    subst hz
    exact ⟨d, e, hd.dp, he.dp, h1, h2, k⟩
  | NotEq =>
    refine ⟨_, op_neD (by omega), fun w H d e z v u Q g hd he hz k => ?_⟩
    simp only [cmpD, Option.some.injEq, reduceCtorEq, Option.ite_none_right_eq_some, Bool.and_eq_true, shp] at hz
    obtain ⟨⟨h1, h2⟩, hz⟩ := hz
    subst hz
    exact ⟨d, e, hd.dp, he.dp, h1, h2, k⟩
  | Lt =>
    refine ⟨_, op_lt, fun w H d e z v u Q g hd he hz k => ?_⟩
    cases d <;> cases e <;> simp only [cmpD, Option.some.injEq, reduceCtorEq] at hz
    subst hz
    simp only [RepR, RepD] at hd he
    subst hd he
    exact ⟨_, _, rfl, rfl, k⟩
  | LtE =>
    refine ⟨_, op_le, fun w H d e z v u Q g hd he hz k => ?_⟩
    cases d <;> cases e <;> simp only [cmpD, Option.some.injEq, reduceCtorEq] at hz
    subst hz
    simp only [RepR, RepD] at hd he
    subst hd he
    exact ⟨_, _, rfl, rfl, k⟩
  | Gt =>
    refine ⟨_, op_gt, fun w H d e z v u Q g hd he hz k => ?_⟩
    cases d <;> cases e <;> simp only [cmpD, Option.some.injEq, reduceCtorEq] at hz
    subst hz
    simp only [RepR, RepD] at hd he
    subst hd he
    exact ⟨_, _, rfl, rfl, k⟩
  | GtE =>
    refine ⟨_, op_ge, fun w H d e z v u Q g hd he hz k => ?_⟩
    cases d <;> cases e <;> simp only [cmpD, Option.some.injEq, reduceCtorEq] at hz
    subst hz
    simp only [RepR, RepD] at hd he
    subst hd he
    exact ⟨_, _, rfl, rfl, k⟩
  | In =>
    refine ⟨_, (op_inT hu).or (op_inD hu), fun w H d e z v u Q g hd he hz k => ?_⟩
    cases e <;> simp only [cmpD, Option.some.injEq, reduceCtorEq, Option.ite_none_right_eq_some, Bool.and_eq_true, shp] at hz
    · obtain ⟨⟨h1, h2⟩, hz⟩ := hz
      subst hz
      exact .inr ⟨d, _, hd.dp, he.dp, h1, h2, k⟩
    · obtain ⟨⟨h1, h2⟩, hz⟩ := hz
      subst hz
      exact .inl ⟨d, _, hd.dp, he.dp, h1, h2, k⟩
  | NotIn =>
    refine ⟨_, (op_notInT hu).or (op_notInD hu), fun w H d e z v u Q g hd he hz k => ?_⟩
    cases e <;> simp only [cmpD, Option.some.injEq, reduceCtorEq, Option.ite_none_right_eq_some, Bool.and_eq_true, shp] at hz
    · obtain ⟨⟨h1, h2⟩, hz⟩ := hz
      subst hz
      exact .inr ⟨d, _, hd.dp, he.dp, h1, h2, k⟩
    · obtain ⟨⟨h1, h2⟩, hz⟩ := hz
      subst hz
      exact .inl ⟨d, _, hd.dp, he.dp, h1, h2, k⟩
  | Is =>
    refine ⟨_, op_isN, fun w H d e z v u Q g hd he hz k => ?_⟩
    cases e <;> simp only [cmpD, Option.some.injEq, reduceCtorEq] at hz
    simp only [RepR, RepD] at he
    subst he
    refine ⟨rfl, ?_⟩
    have : decide (v = V.non) = z := by
      cases d <;> simp only [RepR, RepD] at hd
      · rw [hd, ← hz]; rfl
      · rw [hd, ← hz]; rfl
      · rw [hd, ← hz]; rfl
      · rw [hd, ← hz]; rfl
      · obtain ⟨a, vs, e1, _⟩ := hd
        rw [e1, ← hz]; rfl
      · obtain ⟨a, vs, e1, _⟩ := hd
        rw [e1, ← hz]; rfl
    rw [this]
    exact k
  | IsNot =>
    refine ⟨_, op_notN, fun w H d e z v u Q g hd he hz k => ?_⟩
    cases e <;> simp only [cmpD, Option.some.injEq, reduceCtorEq] at hz
    simp only [RepR, RepD] at he
    subst he
    refine ⟨rfl, ?_⟩
    have : (!decide (v = V.non)) = z := by
      cases d <;> simp only [RepR, RepD] at hd
      · rw [hd, ← hz]; rfl
      · rw [hd, ← hz]; rfl
      · rw [hd, ← hz]; rfl
      · rw [hd, ← hz]; rfl
      · obtain ⟨a, vs, e1, _⟩ := hd
        rw [e1, ← hz]; rfl
      · obtain ⟨a, vs, e1, _⟩ := hd
        rw [e1, ← hz]; rfl
    rw [this]
    exact k

/-! ### truth -/
theorem tru_rep (g : Good K w H) {x : Val} {v : V} {b : Bool} (h : RepV K mg w H x v) (e : tru w.S x = some b) : TruV K v H b := by
  unfold tru at e
  cases hd : der w.S x with
  | none => rw [hd] at e; cases e
  | some d =>
    rw [hd] at e
    have r := der_rep g h hd
    have e' : truD d = some b := e
    cases d <;> simp only [truD, Option.some.injEq, reduceCtorEq, Option.ite_none_right_eq_some] at e'
    · simp only [RepR, RepD] at r
      subst r e'
      rfl
    · simp only [RepR, RepD] at r
      subst r e'
      rfl
    · simp only [RepR, RepD] at r
      subst r e'
      rfl
    · obtain ⟨hl, e'⟩ := e'
      simp only [RepR, RepD] at r
      subst r e'
      refine ⟨lim_line hl, ?_⟩
      simp only [bne, Bool.not_eq_eq_eq_not, Bool.not_not]
      rw [Bool.eq_iff_iff, beq_iff_eq, beq_iff_eq]
      omega
    · obtain ⟨a, vs, e1, h1, _, h3⟩ := r
      subst e1 e'
      refine .inl ⟨vs, h1, ?_⟩
      have := h3.len
      cases vs <;> cases ‹List D› <;> simp_all
    · simp only [RepR, RepD] at r
      obtain ⟨a, vs, e1, h1, h3⟩ := r
      subst e1 e'
      refine .inr (.inl ⟨vs, h1, ?_⟩)
      have := h3.len
      cases vs <;> cases ‹List D› <;> simp_all
end
end Rf
/-! Which text a small expression stands for. -/
namespace Rf
open PySem PySem.Spec PyProof.Rows L2
structure Cc where
  calm : Bool
  N : List Str
  sc : Scope
  fn : Str → Bool
  fs : Str → Bool
  xs : Str → Bool
def vis (c : Cc) (i : Nat) (x : Str) : Bool := decide (c.N[i]? = some x) && (match c.sc.names.lookup x with | some .local => true | some .cell => true | some .free => true | _ => false) && !(x == ("__debug__" : Str)) && !(x == ("__classdict__" : Str))
def sto (c : Cc) (i : Nat) (x : Str) : Bool := decide (c.N[i]? = some x) && (match c.sc.names.lookup x with | some .local => true | some .cell => c.fn x | _ => false)
def isGl (c : Cc) (x : Str) : Bool := decide (c.sc.names.lookup x = some .globalImplicit) && !(x == ("__debug__" : Str))
def bltName : Blt → Str
  | .len => "len" | .abs => "abs" | .int => "int" | .str => "str" | .sum => "sum" | .all => "all" | .any => "any" | .tuple => "tuple" | .list => "list"
  | .sorted => "sorted" | .min => "min" | .max => "max" | .repr => "repr" | .bool => "bool"
def blk (c : Cc) (scope : Scope) : Cc := { c with sc := relS scope c.sc, fn := fun x => scope.names.lookup x == some .cell }
def ownS (c : Cc) (own : List Nat) : List (Str × Nat) := own.map fun i => (c.N.getD i "", i)
mutual
def chkT (c : Cc) : Tgt → Expr → Bool
  | .nm i, .Name x _ => sto c i x
  | .tp ts, .Tuple xs _ _ => chkTs c ts xs
  | _, _ => false
def chkTs (c : Cc) : Tgts → List Expr → Bool
  | .nil, [] => true
  | .cons t ts, x :: xs => chkT c t x && chkTs c ts xs
  | _, _ => false
end
def isTup : Expr → Bool
  | .Tuple .. => true
  | _ => false
mutual
def slots : Tgt → List Nat
  | .nm i => [i]
  | .tp ts => slotss ts
def slotss : Tgts → List Nat
  | .nil => []
  | .cons t ts => slots t ++ slotss ts
end
mutual
def chkE (c : Cc) : ME → Expr → Bool
  | .var i, .Name x _ => vis c i x
  | .cint i, .Constant (.int j) _ _ => i == j
  | .cstr s, .Constant (.str t) _ _ => s == t
  | .cbl b, .Constant (.bool d) _ _ => b == d
  | .cnon, .Constant .none _ _ => true
  | .gl x, .Name y _ => x == y && isGl c y
  | .tup es, .Tuple xs _ _ => chkEs c es xs
  | .lst es, .List xs _ => chkEs c es xs
  | .bin op a b, .BinOp x op' y _ => decide (op = op') && chkE c a x && chkE c b y
  | .neg a, .UnaryOp .USub x _ => chkE c a x
  | .not a, .UnaryOp .Not x _ => chkE c a x
  | .and a b, .BoolOp .And [x, y] _ => chkE c a x && chkE c b y
  | .and a b, .BoolOp .And (x :: y :: z :: r) p => chkE c a x && chkE c b (.BoolOp .And (y :: z :: r) p)
  | .or a b, .BoolOp .Or [x, y] _ => chkE c a x && chkE c b y
  | .or a b, .BoolOp .Or (x :: y :: z :: r) p => chkE c a x && chkE c b (.BoolOp .Or (y :: z :: r) p)
  | .cmp op a b, .Compare x [op'] [y] _ => decide (op = op') && chkE c a x && chkE c b y
  | .cmp2 op op' a b d, .Compare x [o1, o2] [y, z] _ => decide (op = o1) && decide (op' = o2) && chkE c a x && chkE c b y && chkE c d z
  | .ife t a b, .IfExp x y z _ => chkE c t x && chkE c a y && chkE c b z
  | .call f es, .Call (.Name x _) xs [] _ => c.calm && (x == f && isGl c x) && c.fs f && chkEs c es xs
  | .blt b es, .Call (.Name x _) xs [] _ => c.calm && (x == bltName b && isGl c x) && !xs.isEmpty && chkEs c es xs
  | .isi a ts, .Call (.Name x _) [y, .Tuple zs _ _] [] _ => (x == ("isinstance" : Str) && isGl c x) && chkE c a y && (chkN c ts zs && decide (ts.length ≤ lim))
  | .isi1 a t, .Call (.Name x _) [y, .Name z _] [] _ => (x == ("isinstance" : Str) && isGl c x) && chkE c a y && tyNames.contains t && ((z == (t : Str)) && isGl c z)
  | .idx a i, .Subscript x y _ => chkE c a x && chkE c i y
  | .slc a lo hi, .Subscript x (.Slice l h none _) _ => chkE c a x && chkO c lo l && chkO c hi h
  | .rev a, .Subscript x (.Slice none none (some (.UnaryOp .USub (.Constant (.int 1) _ _) _)) _) _ => chkE c a x
  | .lc own t it q e, .ListComp x [⟨tg, y, ifs, 0⟩] scope _ => c.calm && blkC c.N c.sc scope (ownS c own) && chkT (blk c scope) t tg && (slots t).all own.contains && chkI c it tg y && chkQ (blk c scope) q ifs && chkE (blk c scope) e x
  | _, _ => false
def chkEs (c : Cc) : MEs → List Expr → Bool
  | .nil, [] => true
  | .cons e es, x :: xs => chkE c e x && chkEs c es xs
  | _, _ => false
def chkO (c : Cc) : MEo → Option Expr → Bool
  | .none, none => true
  | .some e, some x => chkE c e x
  | _, _ => false
def chkQ (c : Cc) : MEo → List Expr → Bool
  | .none, [] => true
  | .some e, [x] => chkE c e x
  | _, _ => false
def chkI (c : Cc) : MI → Expr → Expr → Bool
  | .over e, _, x => chkE c e x
  | .rng1 a, _, .Call (.Name x _) [y] [] _ => (x == ("range" : Str) && isGl c x) && chkE c a y
  | .rng2 a b, _, .Call (.Name x _) [y, z] [] _ => (x == ("range" : Str) && isGl c x) && chkE c a y && chkE c b z
  | .enm e, tg, .Call (.Name x _) [y] [] _ => isTup tg && (x == ("enumerate" : Str) && isGl c x) && chkE c e y
  | .zip a b, tg, .Call (.Name x _) [y, z] [] _ => isTup tg && (x == ("zip" : Str) && isGl c x) && chkE c a y && chkE c b z
  | _, _, _ => false
def chkN (c : Cc) : List String → List Expr → Bool
  | [], [] => true
  | t :: ts, .Name z _ :: zs => tyNames.contains t && ((z == (t : Str)) && isGl c z) && chkN c ts zs
  | _, _ => false
end
/-- a clause's answer -/
def chkH (c : Cc) (i : Nat) (n : Str) : HE → Expr → Bool
  | .is f, .Call (.Name x _) [.Name y _, .Name z _] [] _ => (x == ("isinstance" : Str) && isGl c x) && (y == n && vis c i y) && (z == f && isGl c z)
  | .and a b, .BoolOp .And [x, y] _ => chkH c i n a x && chkH c i n b y
  | _, _ => false
/-- what such an expression is not -/
def plainX : Expr → Bool
  | .Starred .. => false
  | .Set .. => false
  | .Slice .. => false
  | _ => true
theorem chk_plain {c : Cc} {m : ME} {e : Expr} (h : chkE c m e = true) : plainX e = true := by
  cases e <;> first | rfl | (cases m <;> simp [chkE] at h)
theorem star_of {e : Expr} (h : plainX e = true) (es : List Expr) (env : PySem.Env) : starEach (e :: es) env = (false, eval e env) :: starEach es env := by
  cases e <;> first | rfl | (simp [plainX] at h)
theorem mark_of {e : Expr} (h : plainX e = true) (op : CmpOp) : behindInMarks op e = false := by
  cases e <;> first | rfl | (simp [plainX] at h)
theorem fold_of {e : Expr} (h : plainX e = true) (env : PySem.Env) (x : Value) : foldedSetIterable e env x = pure x := by
  cases e <;> first | rfl | (simp [plainX] at h)
theorem ix_of {e : Expr} (h : plainX e = true) : PlainIx e := by
  intro o i
  cases e <;> first | rfl | (simp [plainX] at h)
end Rf
/-! Built-in functions against the rules of the machine. -/
namespace Rf
open PySem PySem.Spec PyProof.Rows L2
def RepRs (K : PySem.W.Frag) (w : Wd) (H : Hp) : List D → List V → Prop
  | [], vs => vs = []
  | x :: xs, vs => ∃ v r, vs = v :: r ∧ RepR K w H x v ∧ RepRs K w H xs r
section
variable {K : PySem.W.Frag} {mg : Str → Option Value} {w w1 w' : Wd} {H H1 H' : Hp}
theorem ders_rep (g : Good K w H) : ∀ {xs : List Val} {vs : List V} {ds : List D}, RepVs K mg w H xs vs → ders w.S xs = some ds → RepRs K w H ds vs
  | [], _, _, h, e => by
    cases e
    exact h
  | x :: xs, _, ds, h, e => by
    obtain ⟨v, r, q, h1, h2⟩ := h
    subst q
    unfold ders at e
    cases e1 : der w.S x with
    | none => rw [e1] at e; simp at e
    | some d =>
      cases e2 : ders w.S xs with
      | none => rw [e1, e2] at e; simp at e
      | some es =>
        rw [e1, e2] at e
        simp only [Option.some.injEq] at e
        subst e
        exact ⟨v, r, rfl, der_rep g h1 e1, ders_rep g h2 e2⟩
theorem keeps_rep : ∀ {xs : List Val} {vs : List V} {ds : List D}, RepVs K mg w H xs vs → keeps xs = some ds → RepDs K w H ds vs
  | [], _, _, h, e => by
    cases e
    unfold RepDs
    exact h
  | x :: xs, _, ds, h, e => by
    obtain ⟨v, r, q, h1, h2⟩ := h
    subst q
    unfold keeps at e
    cases e1 : keep x with
    | none => rw [e1] at e; simp at e
    | some d =>
      cases e2 : keeps xs with
      | none => rw [e1, e2] at e; simp at e
      | some es =>
        rw [e1, e2] at e
        simp only [Option.some.injEq] at e
        subst e
        unfold RepDs
        refine ⟨v, r, rfl, ?_, keeps_rep h2 e2⟩
        cases x with
        | d y => cases e1; exact h1
        | loc _ => cases e1
        | scr _ => cases e1
        | fn _ => cases e1
theorem repRs1 {d : D} {vs : List V} (h : RepRs K w H [d] vs) : ∃ v, vs = [v] ∧ RepR K w H d v := by
  obtain ⟨v, r, q, h1, h2⟩ := h
  simp only [RepRs] at h2
  subst h2
  exact ⟨v, q, h1⟩
theorem repRs2 {d e : D} {vs : List V} (h : RepRs K w H [d, e] vs) : ∃ v u, vs = [v, u] ∧ RepR K w H d v ∧ RepR K w H e u := by
  obtain ⟨v, r, q, h1, h2⟩ := h
  obtain ⟨u, e2, h3⟩ := repRs1 h2
  subst e2
  exact ⟨v, u, q, h1, h3⟩
def isFrB : Blt → Bool
  | .list => true
  | .sorted => true
  | _ => false
def BltOk (K : PySem.W.Frag) (r : List V → Hp → VK → Prop) (b : Blt) : Prop := ∀ (w : Wd) (H : Hp) (xs : List D) (vs : List V) (z : D) (Q : VK), Good K w H → RepRs K w H xs vs → bltD b xs = some z →
  (∀ x H', Ext H H' → RepF K (fun _ => none) (isFrB b) H w H' (.d z) x → Q x H') → r vs H Q
theorem BltOk.never {b : Blt} (h : ∀ xs, bltD b xs = none) : BltOk K (fun _ _ _ => False) b := fun w H xs vs z Q _ _ q => by
  rw [h] at q
  cases q
theorem repF_plain {mg : Str → Option Value} {H0 : Hp} {z : D} {x : V} (h : RepD K w H' z x) : RepF K mg false H0 w H' (.d z) x := ⟨h, fun e => nomatch e⟩
theorem repF_at {mg : Str → Option Value} {fr : Bool} {H0 : Hp} {z : D} {x : V} (h : RepD K w H' z x) (hz : ∀ xs, z ≠ .list xs) : RepF K mg fr H0 w H' (.d z) x := ⟨h, fun _ xs e => absurd (by cases e; rfl) (hz xs)⟩
theorem repF_new {mg : Str → Option Value} {fr : Bool} (g : Good K w H) {p : Addr} (hp : H p = none) {xs : List D} {vs : List V} (h : RepDs K w H xs vs) : RepF K mg fr H w (upd H p (.lst vs)) (.d (.list xs)) (.ref p) :=
  ⟨rep_newL g hp h, fun _ ys e => by
    cases e
    exact ⟨p, vs, rfl, hp, upd_same, by rw [rm_upd hp]; exact g, by rw [rm_upd hp]; exact h⟩⟩
/-- sum of a tuple of ints -/
def rSumT (K : PySem.W.Frag) : List V → Hp → VK → Prop := fun vs H Q => ∃ (a : Addr) (ns : List Int), vs = [V.ref a] ∧ SqT K H a (ns.map V.int) ∧ Q (.int ns.sum) H
theorem cr_sumT {X : Cx} (hc : X.calm = true) : CallR X (.builtin "sum") (rSumT X.K) := by
  rintro pins s σ H vs us Q I rvs ⟨t, ns, rfl, sq, q⟩
  obtain ⟨its, rv, tup, _⟩ := I.tuple sq
  obtain ⟨xs, ei⟩ := rv.ints.allInts.items
  have es : numsOf (intItems xs).toList = ns := ei ▸ rv.ints.numsOf
  rw [nums_intItems] at es
  rw [Vals.ref1 rvs]
  refine PySem.W.ktm_sumG (I.ok.hd hc) (show s.heap.IsTuple t (intItems xs) from ei ▸ tup) fun h2 tk t2 k2 => ⟨.int ns.sum, H, I.kept k2, ⟨t2, ?_⟩, q⟩
  rw [preSum_eq, List.take_of_length_le (Nat.le_of_eq (by simp)), es]
theorem big1_spec : ∀ (m : Int) (r : List Int) (x : Int), x ∈ m :: r → (∀ y, y ∈ m :: r → y ≤ x) → x = big1 m r
  | m, [], x, h, _ => by
    simp at h
    exact h
  | m, y :: r, x, h, k => by
    unfold big1
    refine big1_spec _ r x ?_ fun z hz => ?_
    · have h1 := k m (by simp)
      have h2 := k y (by simp)
      simp only [List.mem_cons] at h ⊢
      by_cases c : y > m
      · rw [if_pos c]
        rcases h with h | h
        · subst h; exact absurd h2 (by omega)
        · exact h
      · rw [if_neg c]
        rcases h with h | h | h
        · exact .inl h
        · subst h
          exact .inl (by omega)
        · exact .inr h
    · simp only [List.mem_cons] at hz
      rcases hz with hz | hz
      · subst hz
        split
        · exact k y (by simp)
        · exact k m (by simp)
      · exact k z (by simp [hz])
theorem sml1_spec : ∀ (m : Int) (r : List Int) (x : Int), x ∈ m :: r → (∀ y, y ∈ m :: r → x ≤ y) → x = sml1 m r
  | m, [], x, h, _ => by
    simp at h
    exact h
  | m, y :: r, x, h, k => by
    unfold sml1
    refine sml1_spec _ r x ?_ fun z hz => ?_
    · have h1 := k m (by simp)
      have h2 := k y (by simp)
      simp only [List.mem_cons] at h ⊢
      by_cases c : y < m
      · rw [if_pos c]
        rcases h with h | h
        · subst h; exact absurd h2 (by omega)
        · exact h
      · rw [if_neg c]
        rcases h with h | h | h
        · exact .inl h
        · subst h
          exact .inl (by omega)
        · exact .inr h
    · simp only [List.mem_cons] at hz
      rcases hz with hz | hz
      · subst hz
        split
        · exact k y (by simp)
        · exact k m (by simp)
      · exact k z (by simp [hz])
theorem ins_perm (x : Int) : ∀ l : List Int, (ins x l).Perm (x :: l)
  | [] => .refl _
  | y :: r => by
    unfold ins
    split
    · exact .refl _
    · exact ((ins_perm x r).cons y).trans (.swap x y r)
theorem isort_perm : ∀ l : List Int, (isort l).Perm l
  | [] => .refl _
  | x :: r => (ins_perm x _).trans ((isort_perm r).cons x)
theorem ins_sorted (x : Int) : ∀ l : List Int, l.Pairwise (· ≤ ·) → (ins x l).Pairwise (· ≤ ·)
  | [], _ => by simp [ins]
  | y :: r, h => by
    rw [List.pairwise_cons] at h
    unfold ins
    split
    · rename_i c
      rw [List.pairwise_cons, List.pairwise_cons]
      refine ⟨fun z hz => ?_, h⟩
      rcases List.mem_cons.mp hz with e | e
      · subst e; exact c
      · exact Int.le_trans c (h.1 z e)
    · rw [List.pairwise_cons]
      refine ⟨fun z hz => ?_, ins_sorted x r h.2⟩
      rcases List.mem_cons.mp ((ins_perm x r).mem_iff.mp hz) with e | e
      · subst e; omega
      · exact h.1 z e
theorem isort_sorted : ∀ l : List Int, (isort l).Pairwise (· ≤ ·)
  | [] => .nil
  | x :: r => ins_sorted x _ (isort_sorted r)
theorem sorted_unique : ∀ {a b : List Int}, a.Perm b → a.Pairwise (· ≤ ·) → b.Pairwise (· ≤ ·) → a = b
  | [], b, h, _, _ => (List.nil_perm.mp h).symm
  | x :: a, [], h, _, _ => nomatch List.perm_nil.mp h
  | x :: a, y :: b, h, ha, hb => by
    rw [List.pairwise_cons] at ha hb
    have h1 : x ∈ y :: b := h.mem_iff.mp (by simp)
    have h2 : y ∈ x :: a := h.mem_iff.mpr (by simp)
    have e : x = y := by
      rcases List.mem_cons.mp h1 with e | e
      · exact e
      · rcases List.mem_cons.mp h2 with e2 | e2
        · exact e2.symm
        · have := hb.1 x e
          have := ha.1 y e2
          omega
    subst e
    rw [sorted_unique (List.perm_cons x |>.mp h) ha.2 hb.2]
/-- what the name of a built-in function stands for -/
def bltVal : Blt → Value
  | .len => .builtin "len" | .abs => .builtin "abs" | .int => .type "int" | .str => .type "str" | .sum => .builtin "sum" | .all => .builtin "all" | .any => .builtin "any"
  | .tuple => .type "tuple" | .list => .type "list" | .sorted => .builtin "sorted" | .min => .builtin "min" | .max => .builtin "max" | .repr => .builtin "repr" | .bool => .type "bool"
theorem blt_boot (b : Blt) : bootBuiltins (bltName b) = some (bltVal b) := by
  cases b <;> decide +kernel
theorem callNever {X : Cx} {f : Value} : CallR X f (fun _ _ _ => False) := fun _ _ _ _ _ _ _ _ _ h => h.elim
theorem intsO_len : ∀ {xs : List D} {ns : List Int}, intsO xs = some ns → xs.length = ns.length
  | [], _, e => by
    cases e
    rfl
  | d :: ds, ns, e => by
    cases d <;> simp only [intsO, Option.map_eq_some_iff, reduceCtorEq] at e
    obtain ⟨ms, e1, e2⟩ := e
    subst e2
    simp [intsO_len e1]
theorem blt_ok (X : Cx) (hc : X.calm = true) (b : Blt) : ∃ r, CallR X (bltVal b) r ∧ BltOk X.K r b := by
  cases b with
  | len =>
    refine ⟨_, call_len_seq.or call_len_str, fun w H xs vs z Q g hx hz k => ?_⟩
    unfold bltD at hz
    split at hz <;> first | contradiction | simp only [Option.some.injEq, reduceCtorEq, Option.ite_none_right_eq_some] at hz
    · subst hz
      obtain ⟨v, e, h⟩ := repRs1 hx
      obtain ⟨a, us, e1, h1, _, h3⟩ := h
      subst e e1
      refine .inl ⟨a, us, rfl, .inl h1, k _ H (Ext.refl H) (repF_plain ?_)⟩
      rw [h3.len]; simp [RepD]
    · subst hz
      obtain ⟨v, e, h⟩ := repRs1 hx
      simp only [RepR, RepD] at h
      obtain ⟨a, us, e1, h1, h3⟩ := h
      subst e e1
      refine .inl ⟨a, us, rfl, .inr h1, k _ H (Ext.refl H) (repF_plain ?_)⟩
      rw [h3.len]; simp [RepD]
    · obtain ⟨hl, hz⟩ := hz
      subst hz
      obtain ⟨v, e, h⟩ := repRs1 hx
      simp only [RepR, RepD] at h
      subst e h
      exact .inr ⟨_, rfl, lim_line hl, k _ H (Ext.refl H) (repF_plain (by simp [RepD]))⟩
  | abs =>
    refine ⟨_, call_abs, fun w H xs vs z Q g hx hz k => ?_⟩
    unfold bltD at hz
    split at hz <;> first | contradiction | simp only [Option.some.injEq, reduceCtorEq, Option.ite_none_right_eq_some] at hz
    subst hz
    obtain ⟨v, e, h⟩ := repRs1 hx
    simp only [RepR, RepD] at h
    subst e h
    exact ⟨_, rfl, k _ H (Ext.refl H) (repF_plain (by simp [RepD]))⟩
  | int =>
    refine ⟨_, call_int1, fun w H xs vs z Q g hx hz k => ?_⟩
    unfold bltD at hz
    split at hz <;> first | contradiction | simp only [Option.some.injEq, reduceCtorEq, Option.ite_none_right_eq_some] at hz
    subst hz
    obtain ⟨v, e, h⟩ := repRs1 hx
    simp only [RepR, RepD] at h
    subst e h
    exact .inl ⟨_, rfl, k _ H (Ext.refl H) (repF_plain (by simp [RepD]))⟩
  | str => exact ⟨_, callNever, BltOk.never fun xs => by unfold bltD; split <;> first | rfl | contradiction⟩
  | repr => exact ⟨_, callNever, BltOk.never fun xs => by unfold bltD; split <;> first | rfl | contradiction⟩
  | bool => exact ⟨_, callNever, BltOk.never fun xs => by unfold bltD; split <;> first | rfl | contradiction⟩
  | sum =>
    refine ⟨_, (cr_sum hc).or (cr_sumT hc), fun w H xs vs z Q g hx hz k => ?_⟩
    unfold bltD at hz
    split at hz <;> first | contradiction | simp only [Option.map_eq_some_iff, reduceCtorEq] at hz
    · obtain ⟨ns, e0, hz⟩ := hz
      subst hz
      obtain ⟨v, e, h⟩ := repRs1 hx
      obtain ⟨a, us, e1, h1, _, h3⟩ := h
      subst e e1
      rw [h3.ints e0] at h1
      exact .inl ⟨a, ns, rfl, h1, k _ H (Ext.refl H) (repF_plain (by simp [RepD]))⟩
    · obtain ⟨ns, e0, hz⟩ := hz
      subst hz
      obtain ⟨v, e, h⟩ := repRs1 hx
      simp only [RepR, RepD] at h
      obtain ⟨a, us, e1, h1, h3⟩ := h
      subst e e1
      rw [h3.ints e0] at h1
      exact .inr ⟨a, ns, rfl, h1, k _ H (Ext.refl H) (repF_plain (by simp [RepD]))⟩
  | all =>
    refine ⟨_, cr_all hc, fun w H xs vs z Q g hx hz k => ?_⟩
    unfold bltD at hz
    split at hz <;> first | contradiction | simp only [Option.map_eq_some_iff, reduceCtorEq] at hz
    obtain ⟨ns, e0, hz⟩ := hz
    subst hz
    obtain ⟨v, e, h⟩ := repRs1 hx
    obtain ⟨a, us, e1, h1, _, h3⟩ := h
    subst e e1
    rw [h3.bls e0] at h1
    exact ⟨a, ns, rfl, h1, k _ H (Ext.refl H) (repF_plain (by simp [RepD]))⟩
  | any =>
    refine ⟨_, cr_any hc, fun w H xs vs z Q g hx hz k => ?_⟩
    unfold bltD at hz
    split at hz <;> first | contradiction | simp only [Option.map_eq_some_iff, reduceCtorEq] at hz
    obtain ⟨ns, e0, hz⟩ := hz
    subst hz
    obtain ⟨v, e, h⟩ := repRs1 hx
    obtain ⟨a, us, e1, h1, _, h3⟩ := h
    subst e e1
    rw [h3.bls e0] at h1
    exact ⟨a, ns, rfl, h1, k _ H (Ext.refl H) (repF_plain (by simp [RepD]))⟩
  | tuple =>
    refine ⟨_, call_tuple_of, fun w H xs vs z Q g hx hz k => ?_⟩
    unfold bltD at hz
    split at hz <;> first | contradiction | simp only [Option.some.injEq, reduceCtorEq, Option.ite_none_right_eq_some] at hz
    · subst hz
      obtain ⟨v, e, h⟩ := repRs1 hx
      obtain ⟨a, us, e1, h1, _, h3⟩ := h
      subst e e1
      exact ⟨a, us, rfl, .inl ⟨h1, fun l hl => k _ _ (Ext.new hl) (repF_plain (rep_newT g hl h3))⟩⟩
    · subst hz
      obtain ⟨v, e, h⟩ := repRs1 hx
      simp only [RepR, RepD] at h
      obtain ⟨a, us, e1, h1, h3⟩ := h
      subst e e1
      exact ⟨a, us, rfl, .inr ⟨h1, k _ H (Ext.refl H) (repF_plain (by simp only [RepD]; exact ⟨a, us, rfl, h1, h3⟩))⟩⟩
  | list =>
    refine ⟨_, call_list_of, fun w H xs vs z Q g hx hz k => ?_⟩
    unfold bltD at hz
    split at hz <;> first | contradiction | simp only [Option.some.injEq, reduceCtorEq, Option.ite_none_right_eq_some] at hz
    · subst hz
      obtain ⟨v, e, h⟩ := repRs1 hx
      obtain ⟨a, us, e1, h1, _, h3⟩ := h
      subst e e1
      exact ⟨a, us, rfl, .inl h1, fun l hl => k _ _ (Ext.new hl) (repF_new g hl h3)⟩
    · subst hz
      obtain ⟨v, e, h⟩ := repRs1 hx
      simp only [RepR, RepD] at h
      obtain ⟨a, us, e1, h1, h3⟩ := h
      subst e e1
      exact ⟨a, us, rfl, .inr h1, fun l hl => k _ _ (Ext.new hl) (repF_new g hl h3)⟩
  | sorted =>
    refine ⟨_, cr_sortedI, fun w H xs vs z Q g hx hz k => ?_⟩
    unfold bltD at hz
    split at hz <;> first | contradiction | simp only [Option.map_eq_some_iff, reduceCtorEq] at hz
    obtain ⟨ns, e0, hz⟩ := hz
    subst hz
    obtain ⟨v, e, h⟩ := repRs1 hx
    obtain ⟨a, us, e1, h1, _, h3⟩ := h
    subst e e1
    rw [h3.ints e0] at h1
    refine ⟨a, ns, rfl, h1, fun ns' p hp hs hn => k _ _ (Ext.new hn) ?_⟩
    rw [sorted_unique (hp.trans (isort_perm ns).symm) hs (isort_sorted ns)]
    exact repF_new g hn (RepDs.ofInts _)
  | min =>
    refine ⟨_, (call_min2 hc).or (cr_min hc), fun w H xs vs z Q g hx hz k => ?_⟩
    unfold bltD at hz
    split at hz <;> first | contradiction | simp only [Option.some.injEq, reduceCtorEq] at hz | skip
    · subst hz
      obtain ⟨v, u, e, h, h2⟩ := repRs2 hx
      simp only [RepR, RepD] at h h2
      subst e h h2
      exact .inl ⟨_, _, rfl, k _ H (Ext.refl H) (repF_plain (by simp [RepD]))⟩
    · split at hz
      · rename_i m r e0
        cases hz
        obtain ⟨v, e, h⟩ := repRs1 hx
        obtain ⟨a, us, e1, h1, _, h3⟩ := h
        subst e e1
        rw [h3.ints e0] at h1
        refine .inr ⟨a, _, rfl, h1, by simp, fun x hx1 hx2 => k _ H (Ext.refl H) (repF_plain ?_)⟩
        rw [sml1_spec m r x hx1 hx2]; simp [RepD]
      · cases hz
  | max =>
    refine ⟨_, (call_max2 hc).or (cr_max hc), fun w H xs vs z Q g hx hz k => ?_⟩
    unfold bltD at hz
    split at hz <;> first | contradiction | simp only [Option.some.injEq, reduceCtorEq] at hz | skip
    · subst hz
      obtain ⟨v, u, e, h, h2⟩ := repRs2 hx
      simp only [RepR, RepD] at h h2
      subst e h h2
      exact .inl ⟨_, _, rfl, k _ H (Ext.refl H) (repF_plain (by simp [RepD]))⟩
    · split at hz
      · rename_i m r e0
        cases hz
        obtain ⟨v, e, h⟩ := repRs1 hx
        obtain ⟨a, us, e1, h1, _, h3⟩ := h
        subst e e1
        rw [h3.ints e0] at h1
        refine .inr ⟨a, _, rfl, h1, by simp, fun x hx1 hx2 => k _ H (Ext.refl H) (repF_plain ?_)⟩
        rw [big1_spec m r x hx1 hx2]; simp [RepD]
      · cases hz
/-! ### isinstance -/
theorem tyX_of {d : D} {v : V} (h : RepR K w H d v) : TyX K H v (.type (tyD d)) := by
  cases d <;> simp only [RepR, RepD] at h
  · subst h; exact .base .non
  · subst h; exact .base (.bl _)
  · subst h; exact .base (.int _)
  · subst h; exact .base (.str _)
  · obtain ⟨a, vs, e, _, h2, _⟩ := h
    subst e
    exact .base (.lst h2)
  · obtain ⟨a, vs, e, (h2 | ⟨o, h2⟩) | ⟨o, its, n, h2, h3, _⟩, _⟩ := h
    · subst e; exact .base (.tup h2)
    · subst e; exact .fTuple h2
    · subst e; exact .kTuple h2 h3
theorem kitB_all : ∀ a ∈ ["NoneType", "bool", "int", "str", "list", "tuple", "dict"], ∀ t ∈ tyNames, kitB a t = some (a == t || (t == "int" && a == "bool")) := by decide +kernel
theorem tyD_mem (d : D) : tyD d ∈ ["NoneType", "bool", "int", "str", "list", "tuple", "dict"] := by
  cases d <;> simp [tyD]
theorem kitB_is {d : D} {t : String} (h : tyNames.contains t = true) : kitB (tyD d) t = some (isiD d t) := kitB_all _ (tyD_mem d) t (List.contains_iff_mem.mp h)
end
end Rf
/-! Expressions: what the evaluator says, the machine does. -/
namespace Rf
open PySem PySem.Spec PyProof.Rows L2
/-- the promise of a def -/
def spOf (T : Tab) (k : Nat) (K : PySem.W.Frag) (mg : Str → Option Value) (f : Str) : Sp := fun vs H Q E => ∃ (w : Wd) (xs : List Val), Good K w H ∧ RepVs K mg w H xs vs ∧
  OutR K mg E w H (call T k f xs w.S) fun x w' H' => ∀ v, RepF K mg (T.fr f) H w' H' x v → Q v H'
structure DefOk (T : Tab) (k : Nat) (P : Program) (w : World) (K : PySem.W.Frag) (mg : Str → Option Value) (base : Heap) (f : Str) (m : MDef) : Prop where
  ex : ∃ (a : Addr) (fd : FuncData), mg f = some (.ref a) ∧ PySem.W.keepIn K (.ref a) = true ∧ Binds K fd (m.N.take m.np) [] ∧ FnOk P w K mg base (L2.CX P w) k a fd (m.N.take m.np) (spOf T k K mg f)
def tyVal (t : String) : Value := .type t
structure Sit (T : Tab) (k : Nat) (X : Cx) (W : WX) (c : Cc) : Prop where
  N : X.N = c.N
  sc : X.env.scope = c.sc
  fn : X.fn = c.fn
  nd : X.N.Nodup
  tk : Takes X W
  cm : c.calm = true → X.calm = true
  room : c.calm = true → Room k X.A
  un : X.A.units + 65 < cLine
  gl : ∀ x v, T.gl x = some v → ∃ (u : Value) (y : V), X.mg x = some u ∧ RelV y u ∧ ∀ (w : Wd) (H : Hp), Good X.K w H → RepV X.K X.mg w H v y
  blt : ∀ x ∈ (["len", "abs", "int", "str", "sum", "all", "any", "tuple", "list", "sorted", "min", "max", "repr", "bool", "dict", "isinstance", "range", "enumerate", "zip"] : List Str), X.mg x = none
  fs : ∀ f, c.fs f = true → ∃ m, T.defs f = some m
  defs : ∀ f m, T.defs f = some m → DefOk T k X.prog X.w X.K X.mg X.base f m
section
variable {K : PySem.W.Frag} {mg : Str → Option Value} {w w1 w' : Wd} {H H1 H' : Hp}
theorem PE.weak {X : Cx} {e : Expr} {t t' : TE} (h : PE X e t) (k : ∀ σ H Q, t' σ H Q → t σ H Q) : PE X e t' := ⟨fun pins s σ H Q I q => h.run pins s σ H Q I (k _ _ _ q)⟩
theorem PT.weak {X : Cx} {e : Expr} {t t' : TT} (h : PT X e t) (k : ∀ σ H Q, t' σ H Q → t σ H Q) : PT X e t' := ⟨fun pins s σ H Q I q => h.run pins s σ H Q I (k _ _ _ q)⟩
theorem PW.weak {X : Cx} {e : Expr} {t t' : TT} (h : PW X e t) (k : ∀ σ H Q, t' σ H Q → t σ H Q) : PW X e t' := ⟨fun wh pins s σ H Q I q => h.run wh pins s σ H Q I (k _ _ _ q)⟩
theorem PA.weak {X : Cx} {e : List Expr} {t t' : TA} (h : PA X e t) (k : ∀ σ H Q, t' σ H Q → t σ H Q) : PA X e t' := ⟨fun p pins s σ H Q I q => h.run p pins s σ H Q I (k _ _ _ q)⟩
theorem PI.weak {X : Cx} {tg e : Expr} {t t' : TI} (h : PI X tg e t) (k : ∀ σ H Q, t' σ H Q → t σ H Q) : PI X tg e t' := ⟨fun pins s σ H Q I q => h.run pins s σ H Q I (k _ _ _ q)⟩
abbrev WXs (W : WX) (σ : VStk) : XK := fun c dx H' => W c dx σ H'
variable {W : WX} {σ : VStk} {r : Env}
theorem rd_of {A : Type} {fr : Bool} {f : Env → Store → Res Val} {k : Val → Store → Res A} {P : A → Wd → Hp → Prop} {Q : VK} (g : Good K w H) (en : EnvOk K mg w H r σ) (o : OutR K mg (WXs W σ) w H ((f r w.S).bind k) P)
    (hq : ∀ x w1 H1 v, Step K w H w1 H1 → EnvOk K mg w1 H1 r σ → RepF K mg fr H w1 H1 x v → OutR K mg (WXs W σ) w1 H1 (k x w1.S) P → Q v H1) : rdE K mg fr f W σ H Q :=
  ⟨w, r, g, en, (OutR.bind g o).mono fun x w1 H1 s p v rep => hq x w1 H1 v s (en.step s g) rep p⟩
theorem rdA_of {A : Type} {f : Env → Store → Res (List Val)} {k : List Val → Store → Res A} {P : A → Wd → Hp → Prop} {Q : List V → Hp → Prop} (g : Good K w H) (en : EnvOk K mg w H r σ) (o : OutR K mg (WXs W σ) w H ((f r w.S).bind k) P)
    (hq : ∀ x w1 H1 v, Step K w H w1 H1 → EnvOk K mg w1 H1 r σ → RepVs K mg w1 H1 x v → OutR K mg (WXs W σ) w1 H1 (k x w1.S) P → Q v H1) : rdA K mg f W σ H Q :=
  ⟨w, r, g, en, (OutR.bind g o).mono fun x w1 H1 s p v rep => hq x w1 H1 v s (en.step s g) rep p⟩
theorem rdT_of {A : Type} {f : Env → Store → Res Val} {k : Val → Store → Res A} {P : A → Wd → Hp → Prop} {Q : Bool → Hp → Prop} (g : Good K w H) (en : EnvOk K mg w H r σ) (o : OutR K mg (WXs W σ) w H ((f r w.S).bind k) P)
    (hn : ∀ x S, tru S x = none → k x S = .stuck)
    (hq : ∀ x b w1 H1, Step K w H w1 H1 → EnvOk K mg w1 H1 r σ → tru w1.S x = some b → OutR K mg (WXs W σ) w1 H1 (k x w1.S) P → Q b H1) : rdT K mg f W σ H Q :=
  ⟨w, r, g, en, (OutR.bind g o).mono fun x w1 H1 s p => by
    cases hb : tru w1.S x with
    | none =>
      rw [hn x w1.S hb] at p
      exact p
    | some b => exact hq x b w1 H1 s (en.step s g) hb p⟩
theorem rdE_low {fr : Bool} {f : Env → Store → Res Val} {Q : VK} (h : rdE K mg false f W σ H Q) : rdE K mg fr f W σ H Q := by
  obtain ⟨w, r, g, en, o⟩ := h
  exact ⟨w, r, g, en, o.mono fun x w' H' _ p v rf => p v rf.low⟩
/-- a test by its value -/
theorem pt_of {X : Cx} {e : Expr} {fr : Bool} {f : Env → Store → Res Val} (h : PE X e (rdE X.K X.mg fr f W)) (he : ∀ whole, isTrue e X.env whole = (do let v ← whole; standAt e.pos; holding [v] (truthy v))) : PT X e (rdT X.K X.mg f W) := by
  refine PT.weak (pt_truth h he) fun σ H Q q => ?_
  obtain ⟨w, r, g, en, o⟩ := q
  refine ⟨w, r, g, en, o.mono fun x w' H' s p v rf => ?_⟩
  cases hb : tru w'.S x with
  | none => rw [hb] at p; exact p.elim
  | some b =>
    rw [hb] at p
    exact ⟨b, tru_rep s.gd rf.1 hb, p⟩
structure Snd (X : Cx) (W : WX) (fr : Bool) (f : Env → Store → Res Val) (e : Expr) : Prop where
  pe : PE X e (rdE X.K X.mg fr f W)
  pt : PT X e (rdT X.K X.mg f W)
  pw : (∃ op vs p, e = .BoolOp op vs p) → PW X e (rdT X.K X.mg f W)
theorem Snd.of {X : Cx} {e : Expr} {fr : Bool} {f : Env → Store → Res Val} (h : PE X e (rdE X.K X.mg fr f W)) (he : ∀ whole, isTrue e X.env whole = (do let v ← whole; standAt e.pos; holding [v] (truthy v))) (hn : ∀ op vs p, e ≠ .BoolOp op vs p) : Snd X W fr f e :=
  ⟨h, pt_of h he, fun ⟨op, vs, p, q⟩ => absurd q (hn op vs p)⟩
theorem lift_out {A B : Type} {E : XK} {o : Option A} {f : A → B} {P : B → Wd → Hp → Prop} (h : OutR K mg E w H (Res.lift (o.map f) w.S) P) : ∃ a, o = some a ∧ ∀ w' H', w'.S = w.S → Step K w H w' H' → P (f a) w' H' := by
  cases o with
  | none => exact h.elim
  | some a => exact ⟨a, rfl, h⟩
theorem glob_of {T : Tab} {k : Nat} {X : Cx} {c : Cc} (S : Sit T k X W c) {x : Str} (h : isGl c x = true) : Gl X x ∧ (x == ("__debug__" : Str)) = false := by
  unfold isGl at h
  simp only [Bool.and_eq_true, decide_eq_true_eq, Bool.not_eq_true'] at h
  refine ⟨?_, h.2⟩
  show X.env.scope.names.lookup x = some .globalImplicit
  rw [S.sc]
  exact h.1
/-- names -/
theorem snd_var {T : Tab} {k : Nat} {X : Cx} {c : Cc} (S : Sit T k X W c) {G : Glob} {C : Calls} {i : Nat} {x : Str} {p : Pos} (h : vis c i x = true) : Snd X W false (evE G C (.var i)) (.Name x p) := by
  unfold vis at h
  simp only [Bool.and_eq_true, decide_eq_true_eq, Bool.not_eq_true'] at h
  obtain ⟨⟨⟨h1, h2⟩, h3⟩, h4⟩ := h
  have hv : Vis X.env.scope x := by
    rw [S.sc]
    unfold Vis
    split at h2 <;> first | exact .inl (by assumption) | exact .inr (.inl (by assumption)) | exact .inr (.inr (by assumption)) | cases h2
  refine Snd.of (PE.weak (pe_var (by rw [S.N]; exact h1) hv h3 h4) fun σ H Q q => ?_) (by intro _; rfl) (by intro _ _ _ q; cases q)
  obtain ⟨w, r, g, en, o⟩ := q
  unfold evE at o
  cases e1 : r[i]? with
  | none => rw [e1] at o; exact o.elim
  | some y =>
    cases y with
    | none => rw [e1] at o; exact o.elim
    | some y =>
      rw [e1] at o
      obtain ⟨v, h5, h6⟩ := en.at_ i y e1
      exact ⟨v, h5, o w H rfl (Step.refl g) v ⟨h6, fun z => nomatch z⟩⟩
theorem snd_con {X : Cx} {e : Expr} {G : Glob} {C : Calls} {m : ME} {d : D} {v : V} (hp : PE X e (tC v)) (hm : ∀ r S, evE G C m r S = .ok (.d d) S) (hr : ∀ w H, RepD X.K w H d v) (he : ∀ whole, isTrue e X.env whole = (do let v ← whole; standAt e.pos; holding [v] (truthy v)))
    (hn : ∀ op vs p, e ≠ .BoolOp op vs p) : Snd X W false (evE G C m) e := by
  refine Snd.of (PE.weak hp fun σ H Q q => ?_) he hn
  obtain ⟨w, r, g, en, o⟩ := q
  rw [hm] at o
  exact o w H rfl (Step.refl g) v ⟨hr w H, fun z => nomatch z⟩
theorem snd_gl {T : Tab} {k : Nat} {X : Cx} {c : Cc} (S : Sit T k X W c) {C : Calls} {x : Str} {p : Pos} (h : isGl c x = true) : Snd X W false (evE T.gl C (.gl x)) (.Name x p) := by
  obtain ⟨hg, hd⟩ := glob_of S h
  cases e : T.gl x with
  | none =>
    refine Snd.of ⟨fun pins s σ H Q I q => ?_⟩ (by intro _; rfl) (by intro _ _ _ q; cases q)
    obtain ⟨w, r, g, en, o⟩ := q
    unfold evE at o
    rw [e] at o
    exact o.elim
  | some v =>
    obtain ⟨u, y, hm, hr, hrep⟩ := S.gl x v e
    refine Snd.of (PE.weak (pe_glob hg hm hr hd) fun σ H Q q => ?_) (by intro _; rfl) (by intro _ _ _ q; cases q)
    obtain ⟨w, r, g, en, o⟩ := q
    unfold evE at o
    rw [e] at o
    exact o w H rfl (Step.refl g) y ⟨hrep w H g, fun z => nomatch z⟩
/-- operations -/
theorem snd_bin {X : Cx} {G : Glob} {C : Calls} {fa fb : Bool} {op : Operator} {a b : ME} {x y : Expr} {p : Pos} (ha : PE X x (rdE X.K X.mg fa (evE G C a) W)) (hb : PE X y (rdE X.K X.mg fb (evE G C b) W)) : Snd X W false (evE G C (.bin op a b)) (.BinOp x op y p) := by
  obtain ⟨rr, h1, h2⟩ := bin_ok X op
  refine Snd.of (PE.weak (pe_op h1 ha hb) fun σ H Q q => ?_) (by intro _; rfl) (by intro _ _ _ q; cases q)
  obtain ⟨w, r, g, en, o⟩ := q
  unfold evE at o
  refine rd_of g en o fun x1 w1 H1 v1 s1 en1 rx o1 => rd_of s1.gd en1 o1 fun y1 w2 H2 v2 s2 en2 ry o2 => ?_
  have rx2 := s2.repV s1.gd rx.1
  cases hx : der w2.S x1 with
  | none => rw [hx] at o2; exact o2.elim
  | some dx =>
    cases hy : der w2.S y1 with
    | none => rw [hx, hy] at o2; exact o2.elim
    | some dy =>
      rw [hx, hy] at o2
      obtain ⟨z, hz, k⟩ := lift_out o2
      exact h2 w2 H2 dx dy z v1 v2 Q s2.gd (der_rep s2.gd rx2 hx) (der_rep s2.gd ry.1 hy) hz fun x' H' ex rp => k w2 H' rfl (ex.step s2.gd) x' ⟨rp, fun z => nomatch z⟩
theorem snd_neg {X : Cx} {G : Glob} {C : Calls} {fa : Bool} {a : ME} {x : Expr} {p : Pos} (ha : PE X x (rdE X.K X.mg fa (evE G C a) W)) : Snd X W false (evE G C (.neg a)) (.UnaryOp .USub x p) := by
  refine Snd.of (PE.weak (pe_un un_neg ha) fun σ H Q q => ?_) (by intro _; rfl) (by intro _ _ _ q; cases q)
  obtain ⟨w, r, g, en, o⟩ := q
  unfold evE at o
  refine rd_of g en o fun x1 w1 H1 v1 s1 en1 rx o1 => ?_
  split at o1
  · rename_i i
    have rx := rx.1
    simp only [RepV, RepD] at rx
    subst rx
    exact ⟨i, rfl, o1 w1 H1 rfl (Step.refl s1.gd) _ ⟨by simp [RepV, RepD], fun z => nomatch z⟩⟩
  · exact o1.elim
theorem snd_not {X : Cx} {G : Glob} {C : Calls} {fa : Bool} {a : ME} {x : Expr} {p : Pos} (ha : Snd X W fa (evE G C a) x) : Snd X W false (evE G C (.not a)) (.UnaryOp .Not x p) := by
  refine ⟨PE.weak (pe_notT ha.pe) fun σ H Q q => ?_, PT.weak (pt_not ha.pt) fun σ H Q q => ?_, fun ⟨_, _, _, q⟩ => nomatch q⟩
  · obtain ⟨w, r, g, en, o⟩ := q
    unfold evE at o
    refine rd_of g en o fun x1 w1 H1 v1 s1 en1 rx o1 => ?_
    cases hb : tru w1.S x1 with
    | none => rw [hb] at o1; exact o1.elim
    | some b =>
      rw [hb] at o1
      exact ⟨b, tru_rep s1.gd rx.1 hb, o1 w1 H1 rfl (Step.refl s1.gd) _ ⟨by simp [RepV, RepD], fun z => nomatch z⟩⟩
  · obtain ⟨w, r, g, en, o⟩ := q
    unfold evE at o
    refine rdT_of g en o (fun x S h => by rw [h]) fun x1 b w1 H1 s1 en1 hb o1 => ?_
    rw [hb] at o1
    exact o1 w1 H1 rfl (Step.refl s1.gd)
/-- and, or -/
theorem and_pe {X : Cx} {G : Glob} {C : Calls} {fa fb : Bool} {a b : ME} {x y : Expr} {rest : List Expr} {p : Pos} (ha : PE X x (rdE X.K X.mg fa (evE G C a) W)) (hb : PE X (.BoolOp .And (y :: rest) p) (rdE X.K X.mg fb (evE G C b) W)) :
    PE X (.BoolOp .And (x :: y :: rest) p) (rdE X.K X.mg false (evE G C (.and a b)) W) := by
  refine PE.weak (pe_andT ha hb) fun σ H Q q => ?_
  obtain ⟨w, r, g, en, o⟩ := q
  unfold evE at o
  refine rd_of g en o fun x1 w1 H1 v1 s1 en1 rx o1 => ?_
  cases hb : tru w1.S x1 with
  | none => rw [hb] at o1; exact o1.elim
  | some t =>
    rw [hb] at o1
    refine ⟨t, tru_rep s1.gd rx.1 hb, ?_⟩
    cases t with
    | true =>
      rw [if_pos rfl]
      exact ⟨w1, r, s1.gd, en1, OutR.mono o1 fun z w2 H2 s2 k v rf => k v ⟨rf.1, fun z => nomatch z⟩⟩
    | false =>
      rw [if_neg Bool.false_ne_true]
      exact o1 w1 H1 rfl (Step.refl s1.gd) v1 ⟨rx.1, fun z => nomatch z⟩
theorem or_pe {X : Cx} {G : Glob} {C : Calls} {fa fb : Bool} {a b : ME} {x y : Expr} {rest : List Expr} {p : Pos} (ha : PE X x (rdE X.K X.mg fa (evE G C a) W)) (hb : PE X (.BoolOp .Or (y :: rest) p) (rdE X.K X.mg fb (evE G C b) W)) :
    PE X (.BoolOp .Or (x :: y :: rest) p) (rdE X.K X.mg false (evE G C (.or a b)) W) := by
  refine PE.weak (pe_orT ha hb) fun σ H Q q => ?_
  obtain ⟨w, r, g, en, o⟩ := q
  unfold evE at o
  refine rd_of g en o fun x1 w1 H1 v1 s1 en1 rx o1 => ?_
  cases hb : tru w1.S x1 with
  | none => rw [hb] at o1; exact o1.elim
  | some t =>
    rw [hb] at o1
    refine ⟨t, tru_rep s1.gd rx.1 hb, ?_⟩
    cases t with
    | false =>
      rw [if_neg Bool.false_ne_true]
      exact ⟨w1, r, s1.gd, en1, OutR.mono o1 fun z w2 H2 s2 k v rf => k v ⟨rf.1, fun z => nomatch z⟩⟩
    | true =>
      rw [if_pos rfl]
      exact o1 w1 H1 rfl (Step.refl s1.gd) v1 ⟨rx.1, fun z => nomatch z⟩
theorem and_pw {X : Cx} {G : Glob} {C : Calls} {a b : ME} {x y : Expr} {rest : List Expr} {p : Pos} (ha : PT X x (rdT X.K X.mg (evE G C a) W)) (hb : PW X (.BoolOp .And (y :: rest) p) (rdT X.K X.mg (evE G C b) W)) :
    PW X (.BoolOp .And (x :: y :: rest) p) (rdT X.K X.mg (evE G C (.and a b)) W) := by
  refine PW.weak (pw_and ha hb) fun σ H Q q => ?_
  obtain ⟨w, r, g, en, o⟩ := q
  unfold evE at o
  refine rdT_of g en o (fun x S h => by rw [h]) fun x1 t w1 H1 s1 en1 hb o1 => ?_
  rw [hb] at o1
  cases t with
  | true =>
    rw [if_pos rfl]
    exact ⟨w1, r, s1.gd, en1, o1⟩
  | false =>
    rw [if_neg Bool.false_ne_true]
    have q : (match tru w1.S x1 with | some b => Q b H1 | none => False) := o1 w1 H1 rfl (Step.refl s1.gd)
    rw [hb] at q
    exact q
theorem or_pw {X : Cx} {G : Glob} {C : Calls} {a b : ME} {x y : Expr} {rest : List Expr} {p : Pos} (ha : PT X x (rdT X.K X.mg (evE G C a) W)) (hb : PW X (.BoolOp .Or (y :: rest) p) (rdT X.K X.mg (evE G C b) W)) :
    PW X (.BoolOp .Or (x :: y :: rest) p) (rdT X.K X.mg (evE G C (.or a b)) W) := by
  refine PW.weak (pw_or ha hb) fun σ H Q q => ?_
  obtain ⟨w, r, g, en, o⟩ := q
  unfold evE at o
  refine rdT_of g en o (fun x S h => by rw [h]) fun x1 t w1 H1 s1 en1 hb o1 => ?_
  rw [hb] at o1
  cases t with
  | false =>
    rw [if_neg Bool.false_ne_true]
    exact ⟨w1, r, s1.gd, en1, o1⟩
  | true =>
    rw [if_pos rfl]
    have q : (match tru w1.S x1 with | some b => Q b H1 | none => False) := o1 w1 H1 rfl (Step.refl s1.gd)
    rw [hb] at q
    exact q
/-- comparisons -/
theorem snd_cmp {X : Cx} (hu : X.A.units + 65 < cLine) {G : Glob} {C : Calls} {fa fb : Bool} {op : CmpOp} {a b : ME} {x y : Expr} {p : Pos} (ha : PE X x (rdE X.K X.mg fa (evE G C a) W)) (hb : PE X y (rdE X.K X.mg fb (evE G C b) W)) (hm : behindInMarks op y = false) :
    Snd X W false (evE G C (.cmp op a b)) (.Compare x [op] [y] p) := by
  obtain ⟨rr, h1, h2⟩ := cmp_ok X hu op
  refine ⟨PE.weak (pe_cmpR h1 ha hb hm) fun σ H Q q => ?_, PT.weak (pt_cmpR h1 ha hb hm) fun σ H Q q => ?_, fun ⟨_, _, _, q⟩ => nomatch q⟩
  · obtain ⟨w, r, g, en, o⟩ := q
    unfold evE at o
    refine rd_of g en o fun x1 w1 H1 v1 s1 en1 rx o1 => rd_of s1.gd en1 o1 fun y1 w2 H2 v2 s2 en2 ry o2 => ?_
    have rx2 := s2.repV s1.gd rx.1
    cases hx : der w2.S x1 with
    | none => rw [hx] at o2; exact o2.elim
    | some dx =>
      cases hy : der w2.S y1 with
      | none => rw [hx, hy] at o2; exact o2.elim
      | some dy =>
        rw [hx, hy] at o2
        obtain ⟨z, hz, k⟩ := lift_out o2
        exact h2 w2 H2 dx dy z v1 v2 Q s2.gd (der_rep s2.gd rx2 hx) (der_rep s2.gd ry.1 hy) hz (k w2 H2 rfl (Step.refl s2.gd) _ ⟨by simp [RepV, RepD], fun z => nomatch z⟩)
  · obtain ⟨w, r, g, en, o⟩ := q
    unfold evE at o
    refine rd_of g en o fun x1 w1 H1 v1 s1 en1 rx o1 => rd_of s1.gd en1 o1 fun y1 w2 H2 v2 s2 en2 ry o2 => ?_
    have rx2 := s2.repV s1.gd rx.1
    cases hx : der w2.S x1 with
    | none => rw [hx] at o2; exact o2.elim
    | some dx =>
      cases hy : der w2.S y1 with
      | none => rw [hx, hy] at o2; exact o2.elim
      | some dy =>
        rw [hx, hy] at o2
        obtain ⟨z, hz, k⟩ := lift_out o2
        exact h2 w2 H2 dx dy z v1 v2 _ s2.gd (der_rep s2.gd rx2 hx) (der_rep s2.gd ry.1 hy) hz ⟨z, rfl, k w2 H2 rfl (Step.refl s2.gd)⟩
theorem rd_map {fr : Bool} {f : Env → Store → Res Val} {P : Val → Wd → Hp → Prop} {Q : VK} (g : Good K w H) (en : EnvOk K mg w H r σ) (o : OutR K mg (WXs W σ) w H (f r w.S) P)
    (hq : ∀ x w1 H1 v, Step K w H w1 H1 → RepF K mg fr H w1 H1 x v → P x w1 H1 → Q v H1) : rdE K mg fr f W σ H Q :=
  ⟨w, r, g, en, o.mono fun x w1 H1 s p v rep => hq x w1 H1 v s rep p⟩
theorem rdT_map {f : Env → Store → Res Val} {P : Val → Wd → Hp → Prop} {Q : Bool → Hp → Prop} (g : Good K w H) (en : EnvOk K mg w H r σ) (o : OutR K mg (WXs W σ) w H (f r w.S) P)
    (hq : ∀ x w1 H1, Step K w H w1 H1 → P x w1 H1 → match tru w1.S x with | some b => Q b H1 | none => False) : rdT K mg f W σ H Q :=
  ⟨w, r, g, en, o.mono fun x w1 H1 s p => hq x w1 H1 s p⟩
theorem RepF.any {fr : Bool} {H0 : Hp} {x : Val} {v : V} (h : RepV K mg w1 H1 x v) : RepF K mg false H0 w1 H1 x v := ⟨h, fun z => nomatch z⟩
theorem repB {b : Bool} {H0 : Hp} : RepF K mg false H0 w1 H1 (.d (.bool b)) (.bl b) := ⟨by simp [RepV, RepD], fun z => nomatch z⟩
theorem snd_cmp2 {X : Cx} (hu : X.A.units + 65 < cLine) {G : Glob} {C : Calls} {fa fb fc : Bool} {op op' : CmpOp} {a b c : ME} {x y z : Expr} {p : Pos} (ha : PE X x (rdE X.K X.mg fa (evE G C a) W)) (hb : PE X y (rdE X.K X.mg fb (evE G C b) W)) (hc : PE X z (rdE X.K X.mg fc (evE G C c) W)) (hm : behindInMarks op' z = false) :
    Snd X W false (evE G C (.cmp2 op op' a b c)) (.Compare x [op, op'] [y, z] p) := by
  obtain ⟨r1, h1, k1⟩ := cmp_ok X hu op
  obtain ⟨r2, h2, k2⟩ := cmp_ok X hu op'
  refine ⟨PE.weak (pe_chain h1 h2 ha hb hc (hm := hm)) fun σ H Q q => ?_, PT.weak (pt_chain h1 h2 ha hb hc (hm := hm)) fun σ H Q q => ?_, fun ⟨_, _, _, q⟩ => nomatch q⟩
  all_goals
    obtain ⟨w, r, g, en, o⟩ := q
    unfold evE at o
    refine rd_of g en o fun x1 w1 H1 v1 s1 en1 rx o1 => rd_of s1.gd en1 o1 fun y1 w2 H2 v2 s2 en2 ry o2 => ?_
    have rx2 := s2.repV s1.gd rx.1
    cases hx : der w2.S x1 with
    | none => rw [hx] at o2; exact o2.elim
    | some dx =>
      cases hy : der w2.S y1 with
      | none => rw [hx, hy] at o2; exact o2.elim
      | some dy =>
        rw [hx, hy] at o2
        cases ht : cmpD op dx dy with
        | none => simp only [ht] at o2; exact o2.elim
        | some t =>
          simp only [ht] at o2
          refine k1 w2 H2 dx dy t v1 v2 _ s2.gd (der_rep s2.gd rx2 hx) (der_rep s2.gd ry.1 hy) ht ⟨t, rfl, ?_⟩
          cases t with
          | false =>
            first
              | exact o2 w2 H2 rfl (Step.refl s2.gd) _ repB
              | exact ⟨false, rfl, o2 w2 H2 rfl (Step.refl s2.gd)⟩
              | exact o2 w2 H2 rfl (Step.refl s2.gd)
          | true =>
            refine rd_of s2.gd en2 o2 fun z1 w3 H3 v3 s3 en3 rz o3 => ?_
            have ry3 := s3.repV s2.gd ry.1
            cases hy3 : der w3.S y1 with
            | none => rw [hy3] at o3; exact o3.elim
            | some dy3 =>
              cases hz : der w3.S z1 with
              | none => rw [hy3, hz] at o3; exact o3.elim
              | some dz =>
                rw [hy3, hz] at o3
                obtain ⟨u, hu, k⟩ := lift_out o3
                first
                  | exact k2 w3 H3 dy3 dz u v2 v3 _ s3.gd (der_rep s3.gd ry3 hy3) (der_rep s3.gd rz.1 hz) hu (k w3 H3 rfl (Step.refl s3.gd) _ repB)
                  | exact k2 w3 H3 dy3 dz u v2 v3 _ s3.gd (der_rep s3.gd ry3 hy3) (der_rep s3.gd rz.1 hz) hu ⟨u, rfl, k w3 H3 rfl (Step.refl s3.gd)⟩
theorem snd_ife {X : Cx} {G : Glob} {C : Calls} {fc fa fb : Bool} {c a b : ME} {x y z : Expr} {p : Pos} (hc : Snd X W fc (evE G C c) x) (ha : Snd X W fa (evE G C a) y) (hb : Snd X W fb (evE G C b) z) : Snd X W false (evE G C (.ife c a b)) (.IfExp x y z p) := by
  refine ⟨PE.weak (pe_ifExp hc.pt ha.pe hb.pe) fun σ H Q q => ?_, ⟨fun pins s σ H Q I q => ?_⟩, fun ⟨_, _, _, q⟩ => nomatch q⟩
  · obtain ⟨w, r, g, en, o⟩ := q
    unfold evE at o
    refine rdT_of g en o (fun x S h => by rw [h]) fun x1 t w1 H1 s1 en1 ht o1 => ?_
    rw [ht] at o1
    cases t with
    | true =>
      rw [if_pos rfl]
      exact ⟨w1, r, s1.gd, en1, o1.mono fun z w2 H2 s2 k v rf => k v rf.low⟩
    | false =>
      rw [if_neg Bool.false_ne_true]
      exact ⟨w1, r, s1.gd, en1, o1.mono fun z w2 H2 s2 k v rf => k v rf.low⟩
  · obtain ⟨w, r, g, en, o⟩ := q
    unfold evE at o
    show wpAny _ _ (do if ← isTrue x X.env (eval x X.env) then isTrue y X.env (eval y X.env) else isTrue z X.env (eval z X.env)) _ _ _
    refine wpAny_bind (thn (hc.pt.run pins s σ H (fun t H1 => if t = true then rdT X.K X.mg (evE G C a) W σ H1 Q else rdT X.K X.mg (evE G C b) W σ H1 Q) I ?_) fun t s1 ⟨H1, I1, q1⟩ => ?_)
    · refine rdT_of g en o (fun x S h => by rw [h]) fun x1 t w1 H1 s1 en1 ht o1 => ?_
      rw [ht] at o1
      cases t with
      | true =>
        rw [if_pos rfl]
        exact ⟨w1, r, s1.gd, en1, o1⟩
      | false =>
        rw [if_neg Bool.false_ne_true]
        exact ⟨w1, r, s1.gd, en1, o1⟩
    · cases t with
      | true => exact ha.pt.run pins s1 σ H1 Q I1 q1
      | false => exact hb.pt.run pins s1 σ H1 Q I1 q1
/-- arguments -/
theorem sndA_nil {X : Cx} {G : Glob} {C : Calls} : PA X [] (rdA X.K X.mg (evEs G C .nil) W) := PA.weak pa_nil fun σ H Q q => by
  obtain ⟨w, r, g, en, o⟩ := q
  unfold evEs at o
  exact o w H rfl (Step.refl g) [] rfl
theorem sndA_cons {X : Cx} {G : Glob} {C : Calls} {fa : Bool} {a : ME} {b : MEs} {x : Expr} {y : List Expr} (ha : PE X x (rdE X.K X.mg fa (evE G C a) W)) (hb : PA X y (rdA X.K X.mg (evEs G C b) W)) (hp : plainX x = true) : PA X (x :: y) (rdA X.K X.mg (evEs G C (.cons a b)) W) :=
  PA.weak (pa_cons ha hb (star_of hp y X.env)) fun σ H Q q => by
    obtain ⟨w, r, g, en, o⟩ := q
    unfold evEs at o
    exact rd_of g en o fun x1 w1 H1 v1 s1 en1 rx o1 => rdA_of s1.gd en1 o1 fun xs w2 H2 vs s2 en2 rxs o2 => o2 w2 H2 rfl (Step.refl s2.gd) (v1 :: vs) ⟨v1, vs, rfl, s2.repV s1.gd rx.1, rxs⟩
theorem snd_tup {X : Cx} {G : Glob} {C : Calls} {es : MEs} {xs : List Expr} {k : Nat} {p : Pos} (h : PA X xs (rdA X.K X.mg (evEs G C es) W)) : Snd X W false (evE G C (.tup es)) (.Tuple xs k p) := by
  refine Snd.of (PE.weak (pe_tup h) fun σ H Q q => ?_) (by intro _; rfl) (by intro _ _ _ q; cases q)
  obtain ⟨w, r, g, en, o⟩ := q
  unfold evE at o
  refine rdA_of g en o fun ys w1 H1 vs s1 en1 rys o1 => ?_
  cases hk : keeps ys with
  | none => rw [hk] at o1; exact o1.elim
  | some ds =>
    simp only [hk] at o1
    by_cases hl : ds.length ≤ lim
    · rw [if_pos hl] at o1
      have rd := keeps_rep rys hk
      refine ⟨lim_line (by rw [← rd.len]; exact hl), fun pa hp => ?_⟩
      exact o1 w1 _ rfl ((Ext.new hp).step s1.gd) _ (repF_plain (rep_newT s1.gd hp rd))
    · rw [if_neg hl] at o1
      exact o1.elim
theorem snd_lst {X : Cx} {G : Glob} {C : Calls} {es : MEs} {xs : List Expr} {p : Pos} (h : PA X xs (rdA X.K X.mg (evEs G C es) W)) : Snd X W true (evE G C (.lst es)) (.List xs p) := by
  refine Snd.of (PE.weak (pe_lst h) fun σ H Q q => ?_) (by intro _; rfl) (by intro _ _ _ q; cases q)
  obtain ⟨w, r, g, en, o⟩ := q
  unfold evE at o
  refine rdA_of g en o fun ys w1 H1 vs s1 en1 rys o1 => ?_
  cases hk : keeps ys with
  | none => rw [hk] at o1; exact o1.elim
  | some ds =>
    simp only [hk] at o1
    by_cases hl : ds.length ≤ lim
    · rw [if_pos hl] at o1
      have rd := keeps_rep rys hk
      refine ⟨lim_line (by rw [← rd.len]; exact hl), fun pa hp => ?_⟩
      have rf : RepF X.K X.mg true H1 w1 (upd H1 pa (.lst vs)) (.d (.list ds)) (.ref pa) := repF_new s1.gd hp rd
      refine o1 w1 _ rfl ((Ext.new hp).step s1.gd) _ ⟨rf.1, fun _ ys e => ?_⟩
      obtain ⟨p', vs', e1, e2, e3⟩ := rf.2 rfl ys e
      exact ⟨p', vs', e1, s1.toMv.back s1.gd e2, e3⟩
    · rw [if_neg hl] at o1
      exact o1.elim
theorem starAny {X : Cx} {pos : Pos} : ∀ {es : MEs} {xs : List Expr} {c : Cc}, chkEs c es xs = true → (backTo pos (starEach xs X.env)).any (·.1) = false
  | .nil, [], _, _ => rfl
  | .nil, _ :: _, _, h => by simp [chkEs] at h
  | .cons e es, [], _, h => by simp [chkEs] at h
  | .cons e es, x :: xs, c, h => by
    simp only [chkEs, Bool.and_eq_true] at h
    rw [star_of (chk_plain h.1)]
    show (false || (backTo pos (starEach xs X.env)).any (·.1)) = false
    rw [starAny h.2]
    rfl
/-- f() where what is raised is wished for at the caller's slots -/
theorem pe_call0S {X : Cx} {CX : CXT} {k : Nat} {f : Addr} {fd : FuncData} {ps : List Str} {sp : Sp} {E : L2.St → XK} {x : Str} {p pos : Pos} (F : FnOk X.prog X.w X.K X.mg X.base CX k f fd ps sp) (hr : Room k X.A) (hg : Gl X x) (hm : X.mg x = some (.ref f)) (hk : PySem.W.keepIn X.K (.ref f) = true) (hb : Binds X.K fd ps []) (hx : ∀ σ, PassesAt CX X σ (E σ))
    (hdb : (x == ("__debug__" : Str)) = false := by decide) : PE X (.Call (.Name x p) [] [] pos) (tCallS sp E tNil) := by
  refine ⟨fun pins s σ H Q I h => ?_⟩
  refine wpAny_Call_Name_kw (ld_glob I hg hm ?_ hdb)
  exact PySem.W.callWith_K0 I.kIn hk (run_fnS (us := []) F hr hb (hx σ) I .nil h)
theorem repF_back {fr : Bool} {x : Val} {v : V} (s : Mv w H w1 H1) (g : Good K w1 H1) (h : RepF K mg fr H1 w' H' x v) : RepF K mg fr H w' H' x v := ⟨h.1, fun e ys q => by
  obtain ⟨p, vs, e1, e2, e3⟩ := h.2 e ys q
  exact ⟨p, vs, e1, s.back g e2, e3⟩⟩
theorem snd_call {T : Tab} {k : Nat} {X : Cx} {c : Cc} (S : Sit T k X W c) (hc : c.calm = true) {f : Str} {es : MEs} {xs : List Expr} {p pos : Pos} (hgl : isGl c f = true) (hf : c.fs f = true) (hes : chkEs c es xs = true) (h : PA X xs (rdA X.K X.mg (evEs T.gl (call T k) es) W)) :
    Snd X W (T.fr f) (evE T.gl (call T k) (.call f es)) (.Call (.Name f p) xs [] pos) := by
  obtain ⟨hg, hd⟩ := glob_of S hgl
  refine Snd.of ?_ (by intro _; rfl) (by intro _ _ _ q; cases q)
  obtain ⟨m, hm⟩ := S.fs f hf
  obtain ⟨a, fd, e1, e2, e3, e4⟩ := (S.defs f m hm).ex
  have fin : ∀ {t : TA}, (∀ σ H Q, rdE X.K X.mg (T.fr f) (evE T.gl (call T k) (.call f es)) W σ H Q → t σ H fun vs H1 => spOf T k X.K X.mg f vs H1 Q (WE W σ)) →
      PE X (.Call (.Name f p) xs [] pos) (tCallS (spOf T k X.K X.mg f) (WE W) t) → PE X (.Call (.Name f p) xs [] pos) (rdE X.K X.mg (T.fr f) (evE T.gl (call T k) (.call f es)) W) := fun {t} h1 h2 => PE.weak h2 h1
  cases xs with
  | nil =>
    refine fin (fun σ H Q q => ?_) (pe_call0S e4 (S.room hc) hg e1 e2 e3 (fun σ => passAt S.tk σ) hd)
    obtain ⟨w, r, g, en, o⟩ := q
    unfold evE at o
    cases es with
    | cons _ _ => simp [chkEs] at hes
    | nil =>
      unfold evEs at o
      exact ⟨w, [], g, rfl, o⟩
  | cons x xs =>
    cases es with
    | nil => simp [chkEs] at hes
    | cons e es =>
      have hes' := hes
      simp only [chkEs, Bool.and_eq_true] at hes'
      refine fin (fun σ H Q q => ?_) (pe_callS e4 (S.room hc) hg e1 e2 e3 (fun σ => passAt S.tk σ) h hd (star_of (chk_plain hes'.1) xs X.env) (starAny hes'.2))
      obtain ⟨w, r, g, en, o⟩ := q
      unfold evE at o
      exact rdA_of g en o fun ys w1 H1 vs s1 en1 rys o1 => ⟨w1, ys, s1.gd, rys, o1.mono fun x w' H' s k v rf => k v (repF_back s1.toMv s1.gd rf)⟩
/-- built-in functions -/
theorem isFrB_is (b : Blt) (es : MEs) (fr : Str → Bool) : isFr fr (.blt b es) = isFrB b := by cases b <;> rfl
theorem snd_blt {T : Tab} {k : Nat} {X : Cx} {c : Cc} (S : Sit T k X W c) (hc : c.calm = true) {b : Blt} {es : MEs} {xs : List Expr} {p pos : Pos} (hgl : isGl c (bltName b) = true) (hx : xs.isEmpty = false) (hes : chkEs c es xs = true) (h : PA X xs (rdA X.K X.mg (evEs T.gl (call T k) es) W)) :
    Snd X W (isFrB b) (evE T.gl (call T k) (.blt b es)) (.Call (.Name (bltName b) p) xs [] pos) := by
  obtain ⟨hg, hd⟩ := glob_of S hgl
  obtain ⟨rr, h1, h2⟩ := blt_ok X (S.cm hc) b
  have hmg : X.mg (bltName b) = none := S.blt _ (by cases b <;> decide)
  have hnn : bltName b ≠ ("__name__" : Str) := by cases b <;> decide
  cases xs with
  | nil => cases hx
  | cons x xs =>
    cases es with
    | nil => simp [chkEs] at hes
    | cons e es =>
      have hes' := hes
      simp only [chkEs, Bool.and_eq_true] at hes'
      have rd : ∀ σ H Q, rdE X.K X.mg (isFrB b) (evE T.gl (call T k) (.blt b (.cons e es))) W σ H Q → tCB rr (rdA X.K X.mg (evEs T.gl (call T k) (.cons e es)) W) σ H Q := fun σ H Q q => by
        obtain ⟨w, r, g, en, o⟩ := q
        unfold evE at o
        refine rdA_of g en o fun ys w1 H1 vs s1 en1 rys o1 => ?_
        cases hk : ders w1.S ys with
        | none => rw [hk] at o1; exact o1.elim
        | some ds =>
          rw [hk] at o1
          obtain ⟨z, hz, kk⟩ := lift_out o1
          refine h2 w1 H1 ds vs z Q s1.gd (ders_rep s1.gd rys hk) hz fun x' H' ex rf => kk w1 H' rfl (ex.step s1.gd) x' (repF_back s1.toMv s1.gd ⟨rf.1, rf.2⟩)
      refine Snd.of (PE.weak ?_ rd) (by intro _; rfl) (by intro _ _ _ q; cases q)
      have bo := blt_boot b
      cases b <;> first
        | exact pe_callB h1 hg hmg bo h hnn hd (star_of (chk_plain hes'.1) xs X.env) (starAny hes'.2)
        | exact pe_callTy h1 hg hmg bo h hnn hd (star_of (chk_plain hes'.1) xs X.env) (starAny hes'.2)
end
end Rf
/-! Expressions, further: isinstance, items, cuts, what is walked, comprehensions. -/
namespace Rf
open PySem PySem.Spec PyProof.Rows L2
section
variable {K : PySem.W.Frag} {mg : Str → Option Value} {w w1 w' : Wd} {H H1 H' : Hp} {W : WX} {σ : VStk} {r : Env}
theorem pe_ty {T : Tab} {k : Nat} {X : Cx} {c : Cc} (S : Sit T k X W c) {t : String} {z : Str} {p : Pos} (h : tyNames.contains t = true) (hz : (z == (t : Str)) = true) (hgl : isGl c z = true) : PE X (.Name z p) (tC (.ty t)) := by
  obtain ⟨hg, hd⟩ := glob_of S hgl
  have e : z = (t : Str) := eq_of_beq hz
  subst e
  have h' : t = "int" ∨ t = "bool" ∨ t = "str" ∨ t = "list" ∨ t = "tuple" ∨ t = "dict" := by
    simpa [tyNames] using h
  rcases h' with e | e | e | e | e | e <;> subst e <;> exact pe_bltn hg (S.blt _ (by decide)) (u := .type _) (by decide +kernel) rfl (by decide) hd
theorem isi_any {d : D} {v : V} : ∀ {ts : List String}, (∀ t ∈ ts, tyNames.contains t = true) → PySem.W.kitAny K (.type (tyD d)) (ts.map Value.type) = some (ts.any (isiD d))
  | [], _ => rfl
  | t :: ts, h => by
    have h1 := kitB_is (d := d) (h t (by simp))
    refine kitAny_cons (b := isiD d t) (kit_ty h1) (fun e => ?_) (fun e => ?_)
    · rw [List.any_cons, e, Bool.false_or]
      exact isi_any (d := d) (v := v) fun t ht => h t (by simp [ht])
    · rw [List.any_cons, e, Bool.true_or]
theorem snd_isi1 {T : Tab} {k : Nat} {X : Cx} {c : Cc} (S : Sit T k X W c) {G : Glob} {C : Calls} {fa : Bool} {a : ME} {x : Expr} {t : String} {z : Str} {p p2 pos : Pos} (ha : PE X x (rdE X.K X.mg fa (evE G C a) W)) (hpl : plainX x = true) (hi : isGl c ("isinstance" : Str) = true)
    (h : tyNames.contains t = true) (hz : (z == (t : Str)) = true) (hgl : isGl c z = true) : Snd X W false (evE G C (.isi1 a t)) (.Call (.Name "isinstance" p) [x, .Name z p2] [] pos) := by
  obtain ⟨hg, hd⟩ := glob_of S hi
  have pt := pe_ty S (p := p2) h hz hgl
  refine Snd.of (PE.weak (pe_callB call_isi hg (S.blt _ (by decide)) (by decide +kernel) (pa_cons ha (pa_cons pt pa_nil rfl) (star_of hpl _ _)) (by decide) hd (star_of hpl _ _) (by rfl)) fun σ H Q q => ?_) (by intro _; rfl) (by intro _ _ _ q; cases q)
  obtain ⟨w, r, g, en, o⟩ := q
  unfold evE at o
  refine rd_of g en o fun x1 w1 H1 v1 s1 en1 rx o1 => ?_
  cases hx : der w1.S x1 with
  | none => rw [hx] at o1; exact o1.elim
  | some d =>
    rw [hx] at o1
    exact ⟨v1, .ty t, _, .type t, _, rfl, .ty t, tyX_of (der_rep s1.gd rx.1 hx), kit_ty (kitB_is h), o1 w1 H1 rfl (Step.refl s1.gd) _ repB⟩
theorem pa_tys {T : Tab} {k : Nat} {X : Cx} {c : Cc} (S : Sit T k X W c) : ∀ {ts : List String} {zs : List Expr}, chkN c ts zs = true → ∃ ta, PA X zs ta ∧ (∀ t ∈ ts, tyNames.contains t = true) ∧ ∀ (σ : VStk) (H : Hp) (Q : List V → Hp → Prop), Q (ts.map V.ty) H → ta σ H Q
  | [], [], _ => ⟨_, pa_nil, fun t h => absurd h (by simp), fun σ H Q q => q⟩
  | [], _ :: _, h => by simp [chkN] at h
  | t :: ts, [], h => by simp [chkN] at h
  | t :: ts, e :: zs, h => by
    cases e <;> simp only [chkN, Bool.false_eq_true] at h
    simp only [Bool.and_eq_true] at h
    obtain ⟨⟨h1, h2, h3⟩, h4⟩ := h
    obtain ⟨ta, a1, a2, a3⟩ := pa_tys S h4
    refine ⟨_, pa_cons (pe_ty S h1 h2 h3) a1 rfl, fun t' ht => ?_, fun σ H Q q => a3 σ H _ q⟩
    rcases List.mem_cons.mp ht with e | e
    · subst e; exact h1
    · exact a2 t' e
theorem clsAll : ∀ ts : List String, Paired ClsV (ts.map V.ty) (ts.map Value.type)
  | [] => .nil
  | t :: ts => .cons (.ty t) (clsAll ts)
theorem small_ts {ts : List String} {zs : List Expr} {c : Cc} (h : chkN c ts zs = true) : ts.length = zs.length := by
  induction ts generalizing zs with
  | nil => cases zs with
    | nil => rfl
    | cons _ _ => simp [chkN] at h
  | cons t ts ih => cases zs with
    | nil => simp [chkN] at h
    | cons e zs =>
      cases e <;> simp only [chkN, Bool.false_eq_true] at h
      simp only [Bool.and_eq_true] at h
      rw [List.length_cons, List.length_cons, ih h.2]
theorem snd_isi {T : Tab} {k : Nat} {X : Cx} {c : Cc} (S : Sit T k X W c) {G : Glob} {C : Calls} {fa : Bool} {a : ME} {x : Expr} {ts : List String} {zs : List Expr} {kk : Nat} {p p2 pos : Pos} (ha : PE X x (rdE X.K X.mg fa (evE G C a) W)) (hpl : plainX x = true) (hi : isGl c ("isinstance" : Str) = true)
    (h : chkN c ts zs = true) (hl : ts.length ≤ lim) : Snd X W false (evE G C (.isi a ts)) (.Call (.Name "isinstance" p) [x, .Tuple zs kk p2] [] pos) := by
  obtain ⟨hg, hd⟩ := glob_of S hi
  obtain ⟨ta, a1, a2, a3⟩ := pa_tys S h
  refine Snd.of (PE.weak (pe_callB call_isiT hg (S.blt _ (by decide)) (by decide +kernel) (pa_cons ha (pa_cons (pe_tup a1) pa_nil rfl) (star_of hpl _ _)) (by decide) hd (star_of hpl _ _) (by rfl)) fun σ H Q q => ?_) (by intro _; rfl) (by intro _ _ _ q; cases q)
  obtain ⟨w, r, g, en, o⟩ := q
  unfold evE at o
  refine rd_of g en o fun x1 w1 H1 v1 s1 en1 rx o1 => ?_
  refine a3 σ H1 _ ⟨lim_line (by rw [List.length_map]; exact hl), fun pa hp => ?_⟩
  cases hx : der w1.S x1 with
  | none => rw [hx] at o1; exact o1.elim
  | some d =>
    rw [hx] at o1
    have g2 := (Ext.new (o := .tup (ts.map V.ty)) hp).step s1.gd
    have rx2 := g2.repV s1.gd rx.1
    exact ⟨v1, pa, ts.map V.ty, _, ts.map Value.type, _, rfl, upd_same, clsAll ts, tyX_of (der_rep (x := x1) g2.gd rx2 hx), isi_any (v := v1) a2, o1 w1 _ rfl g2 _ repB⟩
theorem atI_rep {ds : List D} {vs : List V} {i : Int} {d : D} (h : RepDs K w H ds vs) (e : atI ds i = some d) : ∃ v, atI vs i = some v ∧ RepD K w H d v := by
  unfold atI at e ⊢
  rw [← h.len]
  cases hj : ixN ds.length i with
  | none => rw [hj] at e; cases e
  | some j =>
    rw [hj] at e
    exact h.get e
theorem snd_idx {X : Cx} {G : Glob} {C : Calls} {fa fb : Bool} {a i : ME} {x y : Expr} {p : Pos} (ha : PE X x (rdE X.K X.mg fa (evE G C a) W)) (hb : PE X y (rdE X.K X.mg fb (evE G C i) W)) (hpl : plainX y = true) : Snd X W false (evE G C (.idx a i)) (.Subscript x y p) := by
  refine Snd.of (PE.weak (pe_ix ix_seq ha hb (ix_of hpl)) fun σ H Q q => ?_) (by intro _; rfl) (by intro _ _ _ q; cases q)
  obtain ⟨w, r, g, en, o⟩ := q
  unfold evE at o
  refine rd_of g en o fun x1 w1 H1 v1 s1 en1 rx o1 => rd_of s1.gd en1 o1 fun y1 w2 H2 v2 s2 en2 ry o2 => ?_
  have rx2 := s2.repV s1.gd rx.1
  cases hx : der w2.S x1 with
  | none => rw [hx] at o2; exact o2.elim
  | some dx =>
    rw [hx] at o2
    split at o2
    · rename_i dx' j e1
      cases e1
      have ry := ry.1
      simp only [RepV, RepD] at ry
      subst ry
      obtain ⟨z, hz, kk⟩ := lift_out o2
      have rd := der_rep s2.gd rx2 hx
      cases dx <;> simp only [idxD, reduceCtorEq, Option.ite_none_right_eq_some, Option.map_eq_some_iff] at hz
      · obtain ⟨hl, cc, hz, e⟩ := hz
        subst e
        simp only [RepR, RepD] at rd
        subst rd
        exact .inr (.inr ⟨_, _, cc, rfl, rfl, lim_line hl, hz, kk w2 H2 rfl (Step.refl s2.gd) _ (repF_plain (by simp [RepD]))⟩)
      · obtain ⟨a1, vs, e1, h1, _, h3⟩ := rd
        subst e1
        obtain ⟨v, q1, q2⟩ := atI_rep h3 hz
        exact .inl ⟨a1, vs, _, v, rfl, rfl, h1, q1, kk w2 H2 rfl (Step.refl s2.gd) _ (repF_plain q2)⟩
      · simp only [RepR, RepD] at rd
        obtain ⟨a1, vs, e1, h1, h3⟩ := rd
        subst e1
        obtain ⟨v, q1, q2⟩ := atI_rep h3 hz
        exact .inr (.inl ⟨a1, vs, _, v, rfl, rfl, h1, q1, kk w2 H2 rfl (Step.refl s2.gd) _ (repF_plain q2)⟩)
    · exact o2.elim
/-- bounds of a cut -/
def rdO (K : PySem.W.Frag) (mg : Str → Option Value) (f : Env → Store → Res (Option Int)) (W : WX) : TO := fun σ H Q => ∃ w r, Good K w H ∧ EnvOk K mg w H r σ ∧
  OutR K mg (WXs W σ) w H (f r w.S) fun o w' H' => Q o H'
theorem sndO_none {X : Cx} {G : Glob} {C : Calls} : PO X none (rdO X.K X.mg (evO G C .none) W) := by
  refine ⟨fun pins s σ H Q I q => po_none.run pins s σ H Q I ?_⟩
  obtain ⟨w, r, g, en, o⟩ := q
  unfold evO at o
  exact o w H rfl (Step.refl g)
theorem sndO_some {X : Cx} {G : Glob} {C : Calls} {fa : Bool} {a : ME} {x : Expr} (ha : PE X x (rdE X.K X.mg fa (evE G C a) W)) : PO X (some x) (rdO X.K X.mg (evO G C (.some a)) W) := by
  refine ⟨fun pins s σ H Q I q => (po_some ha).run pins s σ H Q I ?_⟩
  obtain ⟨w, r, g, en, o⟩ := q
  unfold evO at o
  refine rd_of g en o fun x1 w1 H1 v1 s1 en1 rx o1 => ?_
  split at o1
  · rename_i i
    have rx := rx.1
    simp only [RepV, RepD] at rx
    subst rx
    exact ⟨i, rfl, o1 w1 H1 rfl (Step.refl s1.gd)⟩
  · exact o1.elim
theorem cutD_rep {ds : List D} {vs : List V} {lo hi : Option Int} (h : RepDs K w H ds vs) : RepDs K w H (cutD ds lo hi) (cutV vs lo hi) := by
  unfold cutD cutV
  rw [h.len]
  exact (h.drop _).take _
theorem cutD_whole {ds : List D} {lo hi : Option Int} (h : HT.sIx ds.length 0 lo = 0 ∧ HT.sIx ds.length ds.length hi = ds.length) : cutD ds lo hi = ds := by
  unfold cutD
  rw [h.1, h.2, List.drop_zero, Nat.sub_zero, List.take_length]
theorem PO.weak {X : Cx} {e : Option Expr} {t t' : TO} (h : PO X e t) (k : ∀ σ H Q, t' σ H Q → t σ H Q) : PO X e t' := ⟨fun pins s σ H Q I q => h.run pins s σ H Q I (k _ _ _ q)⟩
theorem snd_slc {X : Cx} {G : Glob} {C : Calls} {fa : Bool} {a : ME} {lo hi : MEo} {x : Expr} {l h : Option Expr} {p p2 : Pos} (ha : PE X x (rdE X.K X.mg fa (evE G C a) W)) (hl : PO X l (rdO X.K X.mg (evO G C lo) W)) (hh : PO X h (rdO X.K X.mg (evO G C hi) W)) :
    Snd X W false (evE G C (.slc a lo hi)) (.Subscript x (.Slice l h none p2) p) := by
  refine Snd.of (PE.weak (pe_slice (sl_list.or sl_tupA) ha hl hh) fun σ H Q q => ?_) (by intro _; rfl) (by intro _ _ _ q; cases q)
  obtain ⟨w, r, g, en, o⟩ := q
  unfold evE at o
  refine rd_of g en o fun x1 w1 H1 v1 s1 en1 rx o1 => ?_
  refine ⟨w1, r, s1.gd, en1, (OutR.bind s1.gd o1).mono fun y w2 H2 s2 o2 => ?_⟩
  refine ⟨w2, r, s2.gd, en1.step s2 s1.gd, (OutR.bind s2.gd o2).mono fun z w3 H3 s3 o3 => ?_⟩
  have rx3 := s3.repV s2.gd (s2.repV s1.gd rx.1)
  cases hx : der w3.S x1 with
  | none => rw [hx] at o3; exact o3.elim
  | some dx =>
    rw [hx] at o3
    obtain ⟨u, hu, kk⟩ := lift_out o3
    have rd := der_rep s3.gd rx3 hx
    cases dx <;> simp only [slcD, reduceCtorEq, Option.some.injEq] at hu
    · subst hu
      obtain ⟨a1, vs, e1, h1, _, h3⟩ := rd
      subst e1
      exact .inl ⟨a1, vs, rfl, h1, fun pa hp => kk w3 _ rfl ((Ext.new hp).step s3.gd) _ (repF_plain (rep_newL s3.gd hp (cutD_rep h3)))⟩
    · subst hu
      simp only [RepR, RepD] at rd
      obtain ⟨a1, vs, e1, h1, h3⟩ := rd
      subst e1
      refine .inr ⟨a1, vs, rfl, h1, fun e => kk w3 H3 rfl (Step.refl s3.gd) _ (repF_plain ?_), fun e pa hp => kk w3 _ rfl ((Ext.new hp).step s3.gd) _ (repF_plain (rep_newT s3.gd hp (cutD_rep h3)))⟩
      have ec : cutD _ y z = _ := cutD_whole (by rw [h3.len]; exact e)
      rw [ec]
      simp only [RepD]
      exact ⟨a1, vs, rfl, h1, h3⟩
theorem snd_rev {X : Cx} {G : Glob} {C : Calls} {fa : Bool} {a : ME} {x : Expr} {k : Nat} {p1 p2 p3 p : Pos} (ha : PE X x (rdE X.K X.mg fa (evE G C a) W)) :
    Snd X W true (evE G C (.rev a)) (.Subscript x (.Slice none none (some (.UnaryOp .USub (.Constant (.int 1) k p1) p2)) p3) p) := by
  refine Snd.of (PE.weak (pe_revL ha) fun σ H Q q => ?_) (by intro _; rfl) (by intro _ _ _ q; cases q)
  obtain ⟨w, r, g, en, o⟩ := q
  unfold evE at o
  refine rd_of g en o fun x1 w1 H1 v1 s1 en1 rx o1 => ?_
  cases hx : der w1.S x1 with
  | none => rw [hx] at o1; exact o1.elim
  | some dx =>
    rw [hx] at o1
    have rd := der_rep s1.gd rx.1 hx
    cases dx <;> simp only [] at o1 <;> first | exact o1.elim | skip
    obtain ⟨a1, vs, e1, h1, _, h3⟩ := rd
    subst e1
    refine ⟨a1, vs, rfl, h1, fun pa hp => ?_⟩
    exact o1 w1 _ rfl ((Ext.new hp).step s1.gd) _ (repF_back s1.toMv s1.gd (repF_new s1.gd hp h3.reverse))
end
end Rf
/-! A tuple, counted: over the library's walk of enumerate and its draws of a tuple. -/
namespace Rf
open PySem PySem.Spec PyProof.Rows L2
/-- what comes of one rule or of another one -/
theorem PI.or {X : Cx} {tg it : Expr} {w1 w2 : TI} (a : PI X tg it w1) (b : PI X tg it w2) : PI X tg it (fun σ H R => w1 σ H R ∨ w2 σ H R) :=
  ⟨fun pins s σ H R I h => h.elim (fun q => a.run pins s σ H R I q) fun q => b.run pins s σ H R I q⟩
/-- the pairs of a tuple's places and items -/
def Cnt (K : PySem.W.Frag) (t : Addr) : It where
  go := fun n H => ∃ vs v, SqT K H t vs ∧ vs[n]? = some v
  yld := fun n H u H' => ∃ p v, u = .ref p ∧ H p = none ∧ H' = upd H p (.tup [.int (n : Nat), v]) ∧ ∀ vs, SqT K H t vs → vs[n]? = some v
  stop := fun n H => ∃ vs, SqT K H t vs ∧ vs.length = n
/-- the iterator (at c, over the one at j) at its n-th turn -/
def CntAt (t c j : Addr) (n : Nat) (h : Heap) : Prop := (∃ last, IsEnum h c j (n : Nat) last) ∧ h.IsTupleIter j t n ∧ c ≠ j
theorem apart_of {h : Heap} {t c j : Addr} {n : Nat} {vs : Array Value} (st : CntAt t c j n h) (ht : h.IsTuple t vs) : t ≠ j ∧ c ∉ [j, t] := by
  obtain ⟨⟨last, e1⟩, ⟨oj, j1, j2, _⟩, ne⟩ := st
  obtain ⟨ot, t1, t2, _⟩ := ht
  have e1' : h.get? c = some _ := e1
  refine ⟨fun z => ?_, fun z => ?_⟩
  · subst z
    have : oj = ot := Option.some.inj (j1.symm.trans t1)
    rw [← this, j2] at t2
    exact absurd t2 (by simp)
  · rcases List.mem_cons.mp z with z | z
    · exact ne z
    · have z : c = t := by simpa using z
      rw [z, t1] at e1'
      rw [Option.some.inj e1'] at t2
      exact absurd t2 (by simp)
theorem turn_cnt {P : Program} {w : World} {K : PySem.W.Frag} {es : List Expr} {m : Nat} {ps : Pos} (t c j : Addr) : Turn P w K (.Tuple es m ps) (Cnt K t) [c, j] c (CntAt t c j) := by
  have two : ∀ {b : Addr}, b ∈ [c, j] → b = c ∨ b = j := fun hb => by simpa using hb
  constructor
  · exact List.mem_cons_self
  · intro n h st b hb
    obtain ⟨⟨last, e1⟩, ⟨oj, j1, _, j3⟩, _⟩ := st
    rcases two hb with rfl | rfl
    · exact ⟨_, e1, fun v z => nomatch z⟩
    · exact ⟨oj, j1, fun v z => by rw [j3] at z; exact nomatch z⟩
  · intro n h h' st k
    obtain ⟨⟨last, e1⟩, it, ne⟩ := st
    exact ⟨⟨last, k c (by simp) _ e1⟩, it.at (fun o q => k j (by simp) o q), ne⟩
  · intro X e1 e2 e3 calm n pins s σ H E I fresh st ⟨vs, v, sq, hv⟩
    subst e1 e2 e3
    obtain ⟨us, rv, tup, _⟩ := I.tuple sq
    have tup : s.heap.IsTuple t us.toArray := tup
    obtain ⟨u, hu, ru⟩ := rv.get hv
    have ap := apart_of st tup
    have lt : n < us.toArray.size := by simpa using (List.getElem?_eq_some_iff.mp hu).1
    have old : ∀ b ∈ [c, j], b < s.heap.objs.size := fun b hb => by
      obtain ⟨⟨last, e1⟩, ⟨oj, j1, _⟩, _⟩ := st
      rcases two hb with rfl | rfl
      · exact Heap.lt_size e1
      · exact Heap.lt_size j1
    have Wk := WalksT.enumerateD (prog := X.prog) (w := X.w) (Draws.tuple (prog := X.prog) (w := X.w) (A := X.A.in1) (I.ok.hd calm) j t ap.1 us.toArray) c st.2.2 ap.2 (by simp)
    refine Wk.item n s _ _ lt ⟨st.1, st.2.1, tup⟩ fun T row h1 tk hrow big isT mid k1 => ⟨_, rfl, ?_⟩
    refine Wk.go _ _ _ n T ⟨h1, s.gens, s.drawn, tk, s.os⟩ _ _ mid fun h2 st2 k2 => ?_
    obtain ⟨tok, y, hy, er⟩ := hrow
    have ey : y = u := Option.some.inj ((show us[n]? = some y by simpa using hy).symm.trans hu)
    subst er ey
    have isT2 : h2.IsTuple T _ := isT.at fun o q => k2 T o (Wk.apart n T h1 mid) q
    refine ⟨.ref T, _, I.turnedNew (ch := [c, j]) (ob := .tup [.int (n : Nat), v]) (fun b o hb q => k2 b o hb (k1 b o hb q)) fresh big ⟨show 2 ≤ sizeLine by decide, [.int n tok, y], .cons ⟨tok, rfl⟩ (.cons ru .nil), isT2⟩, rfl, ⟨T, v, rfl, I.hok.fresh big, rfl, fun ws hw => ?_⟩, ⟨st2.1, st2.2.1, st.2.2⟩, fun b hb => ?_⟩
    · rw [I.tuple_inj hw sq]
      exact hv
    · rw [upd_ne (Nat.ne_of_lt (Nat.lt_of_lt_of_le (old b hb) big))]
      exact (fresh b hb).1
  · intro X e1 e2 e3 calm n pins s σ H E I fresh st ⟨vs, sq, hn⟩
    subst e1 e2 e3
    obtain ⟨us, rv, tup, _⟩ := I.tuple sq
    have tup : s.heap.IsTuple t us.toArray := tup
    have ap := apart_of st tup
    have en : n = us.toArray.size := by
      have := rv.length
      simp
      omega
    have Wk := WalksT.enumerateD (prog := X.prog) (w := X.w) (Draws.tuple (prog := X.prog) (w := X.w) (A := X.A.in1) (I.ok.hd calm) j t ap.1 us.toArray) c st.2.2 ap.2 (by simp)
    exact Wk.done s _ _ (by rw [← en]; exact ⟨st.1, st.2.1, tup⟩) fun h1 tk k1 => ⟨rfl, I.turnedL k1 fresh⟩
  · intro A n s Q E st q
    exact wpAny_pyIter_enum st.1.choose_spec q
/-- the count of whatever iter() begins -/
theorem cnt_new {v : Value} {o : Obj} {Ok : Heap → Prop} (B : Begins v o Ok) : Meets (Builtin.«enumerate.__new__» ⟨[.type "enumerate", v], []⟩) fun _ R s => Ok s.heap ∧
    R (.ok (.ret (.ref (s.heap.objs.size + 1)))) { s with heap := (s.heap.push o).push { cls := .type "enumerate", data := .fields #[.none, .bool false, .ref s.heap.objs.size, rawInt 0, .none, .none] } } := by
  refine .of_wp fun prog w A R s h => ?_
  obtain ⟨ok, r⟩ := h
  rcases s with ⟨hp, gs, dr, tk, os⟩
  have sub := sub_enumerate
  have sz : (hp.push o).objs.size = hp.objs.size + 1 := Heap.size_push ..
  have begin_ : ∀ {A2 : Around} {F : Value → Shared → Prop} {Z : Value → Shared → Prop}, Z (.ref hp.objs.size) ⟨hp.push o, gs, dr, tk, os⟩ → wpAny (model prog w) A2 (pyIter v) Z F ⟨hp, gs, dr, tk, os⟩ :=
    fun z => B.iter _ _ _ _ _ _ ok z
  rw [← sz] at r
  wp_walk using begin_
  refine wpAny_stack_any fun fs => ?_
  refine wpAny_pure ?_
  split
  · rename_i cl _ _ _ _ _
    cases (cl == Value.type "enumerate") <;> (wp_walk using begin_; exact ⟨_, rfl, r⟩)
  · wp_walk using begin_
    exact ⟨_, rfl, r⟩
/-- for .. in enumerate(a tuple) -/
def iCnt (K : PySem.W.Frag) (ta : TA) : TI := fun σ H R => ta σ H fun vs H1 => ∃ t xs, vs = [.ref t] ∧ SqT K H1 t xs ∧ R (Cnt K t) H1
theorem pi_cnt {X : Cx} {e : Expr} {ta : TA} {p pos ps : Pos} {es : List Expr} {m : Nat} (hg : Gl X "enumerate") (hm : X.mg "enumerate" = none) (ha : PA X [e] ta) (hs : starEach [e] X.env = [(false, eval e X.env)]) :
    PI X (.Tuple es m ps) (.Call (.Name "enumerate" p) [e] [] pos) (iCnt X.K ta) := by
  constructor
  intro pins s σ H R I h
  refine Call_ (ld_blt I hg hm boot_enumerate ?_)
  refine PyProof.Rows.callWith_type1 ?_ hs rfl
  refine thn (ha.run pos pins s σ H _ I h) fun ws s1 hh => ?_
  obtain ⟨vs, H1, I1, rvs, t, xs, ev, sq, q⟩ := hh
  subst ev
  obtain rfl := Vals.ref1 rvs
  obtain ⟨us, rv, tup, _⟩ := I1.tuple sq
  refine callType_new F.called_enumerate (by decide) (F.typeCall_enumerate_1 _) (F.newCall_enumerate_1 _) (fun obj => F.args_object_init_2 obj _) F.entry_enumerate_new (cnt_new (begins_tuple t us.toArray)) ⟨tup, ?_⟩
  have here : ∀ {h2 : Heap} {o2 : Obj}, h2.objs.size = s1.heap.objs.size + 1 → o2.isFreed = false → (h2.push o2).get? (s1.heap.objs.size + 1) = some o2 := fun e1 e2 => by
    rw [← e1]
    exact Heap.get?_push_size _ e2
  have en : IsEnum _ (s1.heap.objs.size + 1) s1.heap.objs.size 0 .none := here (h2 := s1.heap.push { cls := .type "tuple_iterator", data := .fields #[.ref t, .int 0 0] }) (Heap.size_push ..) rfl
  refine ⟨⟨_, en, rfl⟩, wpAny_pyIter_enum en ?_⟩
  refine ⟨s1.heap.objs.size + 1, [s1.heap.objs.size + 1, s1.heap.objs.size], _, Cnt X.K t, H1, rfl, I1.kept (t' := s1.toks) (fun b ob z => Heap.get?_push_of_some _ (Heap.get?_push_of_some _ z)), turn_cnt t _ _, ⟨⟨_, en⟩, ⟨_, Heap.get?_push_of_some _ (Heap.get?_push_size _ rfl), rfl, rfl⟩, Nat.succ_ne_self _⟩, fun b hb => ?_, q⟩
  have : s1.heap.objs.size ≤ b := by
    rcases List.mem_cons.mp hb with z | z
    · rw [z]
      exact Nat.le_succ _
    · have : b = s1.heap.objs.size := by simpa using z
      rw [this]
      exact Nat.le_refl _
  exact I1.fpOk this (I1.hok.fresh this)
end Rf
/-! What is walked; comprehensions. -/
namespace Rf
open PySem PySem.Spec PyProof.Rows L2
section
variable {K : PySem.W.Frag} {mg : Str → Option Value} {w w1 w' : Wd} {H H1 H' : Hp} {W : WX} {σ : VStk} {r : Env}
/-- an iterator yields the items, as long as what is walked stands -/
def WalkOk (K : PySem.W.Frag) (J : It) (wk : Walk) (w0 : Wd) (H0 : Hp) : Prop := ∀ i w H, Tr K w0 H0 w H → stays w.S wk.src = true → i ≤ wk.items.length →
  (∀ d, wk.items[i]? = some d → J.go i H ∧ ∀ x H', J.yld i H x H' → Ext H H' ∧ RepD K w H' d x) ∧ (i = wk.items.length → J.stop i H)
def rdI (K : PySem.W.Frag) (mg : Str → Option Value) (f : Env → Store → Res Walk) (W : WX) : TI := fun σ H R => ∃ w r, Good K w H ∧ EnvOk K mg w H r σ ∧
  OutR K mg (WXs W σ) w H (f r w.S) fun wk w' H' => ∀ J, WalkOk K J wk w' H' → R J H'
theorem Ext.sqL (e : Ext H H') {a : Addr} {vs : List V} (h : SqL K H a vs) : SqL K H' a vs := by
  rcases h with (h | ⟨o, h⟩) | h
  · exact .inl (.inl (e _ _ h))
  · exact .inl (.inr ⟨o, e _ _ h⟩)
  · exact .inr h
theorem Lck.sq {a : Addr} {vs : List V} (h : Lck K H a vs) : SqL K H a vs := by
  rcases h with ⟨o, h⟩ | h
  · exact .inl (.inr ⟨o, h⟩)
  · exact .inr h
/-- a tuple comes -/
def IsT (f : Env → Store → Res Val) (r : Env) (S : Store) : Prop := ∃ x S1 ys, f r S = .ok x S1 ∧ der S1 x = some (.tuple ys)
theorem IsT.of {f : Env → Store → Res Val} {r : Env} {S S2 : Store} {y : Val} (h : IsT f r S) (e : f r S = .ok y S2) : ∃ ys, der S2 y = some (.tuple ys) := by
  obtain ⟨x, S1, ys, h1, h2⟩ := h
  rw [h1] at e
  cases e
  exact ⟨ys, h2⟩
/-- rd_of, with what came -/
theorem rd_ofE {A : Type} {fr : Bool} {f : Env → Store → Res Val} {k : Val → Store → Res A} {P : A → Wd → Hp → Prop} {Q : VK} (g : Good K w H) (en : EnvOk K mg w H r σ) (o : OutR K mg (WXs W σ) w H ((f r w.S).bind k) P)
    (hq : ∀ x w1 H1 v, f r w.S = .ok x w1.S → Step K w H w1 H1 → EnvOk K mg w1 H1 r σ → RepF K mg fr H w1 H1 x v → OutR K mg (WXs W σ) w1 H1 (k x w1.S) P → Q v H1) : rdE K mg fr f W σ H Q := by
  refine ⟨w, r, g, en, ?_⟩
  have o2 := OutR.bind g o
  cases e : f r w.S with
  | stuck => rw [e] at o2; exact o2
  | err x S => rw [e] at o2; exact o2
  | ok x S =>
    rw [e] at o2
    intro w1 H1 e1 s v rep
    exact hq x w1 H1 v (by rw [e, e1]) s (en.step s g) rep (o2 w1 H1 e1 s)
/-- a list read later: frozen, the script, or one whose store stands -/
theorem seqL_later (g : Good K w H) {x : Val} {v : V} (h : RepV K mg w H x v) {ds : List D} (e : der w.S x = some (.list ds)) :
    ∃ a, v = .ref a ∧ ∀ w' H', Tr K w H w' H' → stays w'.S (srcOf w.S x) = true → ∃ vs, SqL K H' a vs ∧ RepDs K w' H' ds vs := by
  cases x with
  | d y =>
    cases e
    simp only [RepV, RepD] at h
    obtain ⟨a, vs, e1, h1, h2, h3⟩ := h
    exact ⟨a, e1, fun w' H' t _ => ⟨vs, .of (t.fr a _ h1 h2.m), t.repDs g h3⟩⟩
  | loc n =>
    refine ⟨w.mu n, h.2, fun w' H' t st => ?_⟩
    unfold der at e
    simp only at e
    cases hc : w.S[n]? with
    | none => rw [hc] at e; cases e
    | some c =>
      rw [hc] at e
      cases c with
      | dct _ => cases e
      | lst xs =>
        cases e
        unfold srcOf at st
        simp only [hc, stays, Bool.and_true] at st
        cases hc' : w'.S[n]? with
        | none => rw [hc'] at st; cases st
        | some c' =>
          rw [hc'] at st
          cases c' with
          | dct _ => cases st
          | lst ys =>
            have e2 := sames_eq st
            subst e2
            obtain ⟨vs, h1, h2⟩ := t.gd.cell n _ hc'
            rw [t.mp n h.1] at h1
            exact ⟨vs, .of h1, h2⟩
  | scr _ => cases e
  | fn _ => cases e
theorem walk_itl {a : Addr} {ds : List D} {src : List (Nat × List D)} {w0 : Wd} {H0 : Hp} (h : ∀ w' H', Tr K w0 H0 w' H' → stays w'.S src = true → ∃ vs, SqL K H' a vs ∧ RepDs K w' H' ds vs) : WalkOk K (Itl K a) ⟨ds, src⟩ w0 H0 := by
  intro i w H t st hi
  obtain ⟨vs, h1, h2⟩ := h w H t st
  refine ⟨fun d hd => ?_, fun e => ?_⟩
  · obtain ⟨v, e1, e2⟩ := h2.get hd
    refine ⟨⟨vs, v, h1, e1⟩, fun x H' y => ?_⟩
    obtain ⟨e, y⟩ := y
    subst e
    have q := y vs h1
    rw [e1] at q
    cases q
    exact ⟨Ext.refl _, e2⟩
  · refine ⟨vs, h1, ?_⟩
    rw [← h2.len, e]
    exact Nat.le_refl _
theorem seqD_der {S : Store} {x : Val} {ds : List D} (h : seqD S x = some ds) : (∃ ns, x = .scr ns ∧ ds = ns.map .int) ∨ der S x = some (.list ds) ∨ der S x = some (.tuple ds) := by
  cases x with
  | scr ns =>
    cases h
    exact .inl ⟨ns, rfl, rfl⟩
  | d y =>
    refine .inr ?_
    simp only [seqD, der] at h ⊢
    cases y <;> simp_all
  | loc n =>
    refine .inr ?_
    simp only [seqD] at h
    split at h <;> first | (cases h; simp_all) | cases h
  | fn f =>
    simp only [seqD, der] at h
    cases h
theorem stays_app : ∀ (S : Store) (a b : List (Nat × List D)), stays S (a ++ b) = (stays S a && stays S b)
  | S, [], b => rfl
  | S, (n, xs) :: a, b => by
    rw [List.cons_append, stays, stays, stays_app S a b, Bool.and_assoc]
theorem stays_src (S : Store) (x : Val) : stays S (srcOf S x) = true := by
  cases x with
  | loc n =>
    unfold srcOf
    simp only
    split
    · rename_i xs hc
      simp only [stays, hc, Bool.and_true]
      exact sames_refl xs
    · rfl
  | d _ => rfl
  | scr _ => rfl
  | fn _ => rfl
theorem sndI_over {X : Cx} {G : Glob} {C : Calls} {fa : Bool} {a : ME} {x tg : Expr} (ha : PE X x (rdE X.K X.mg fa (evE G C a) W)) : PI X tg x (rdI X.K X.mg (evI G C (.over a)) W) := by
  refine PI.weak (PI.or (pi_list ha) (pi_tup ha)) fun σ H R q => ?_
  obtain ⟨w, r, g, en, o⟩ := q
  unfold evI at o
  by_cases ht : IsT (evE G C a) r w.S
  · refine .inr (rd_ofE g en o fun x1 w1 H1 v1 fx s1 en1 rx o1 => ?_)
    obtain ⟨ys, e⟩ := ht.of fx
    cases hd : seqD w1.S x1 with
    | none => rw [hd] at o1; exact o1.elim
    | some ds =>
      rw [hd] at o1
      have k := o1 w1 H1 rfl (Step.refl s1.gd)
      have ed : ds = ys := by
        rcases seqD_der hd with ⟨ns, e1, e2⟩ | e1 | e1
        · rw [e1] at e; cases e
        · rw [e1] at e; cases e
        · rw [e1] at e; cases e; rfl
      subst ed
      have rd := der_rep s1.gd rx.1 e
      simp only [RepR, RepD] at rd
      obtain ⟨a1, vs, e1, h1, h3⟩ := rd
      subst e1
      refine ⟨a1, rfl, ⟨vs, h1⟩, k _ ?_⟩
      intro i w2 H2 t st hi
      have h1' := t.toMv.tup s1.gd h1
      have h3' := t.repDs s1.gd h3
      refine ⟨fun d hd => ?_, fun e => ?_⟩
      · obtain ⟨v, e1, e2⟩ := h3'.get hd
        refine ⟨⟨vs, v, h1', e1⟩, fun x H' y => ?_⟩
        obtain ⟨e, y⟩ := y
        subst e
        have q := y vs h1'
        rw [e1] at q
        cases q
        exact ⟨Ext.refl _, e2⟩
      · refine ⟨vs, h1', ?_⟩
        rw [← h3'.len, e]
        exact Nat.le_refl _
  · refine .inl (rd_ofE g en o fun x1 w1 H1 v1 fx s1 en1 rx o1 => ?_)
    cases hd : seqD w1.S x1 with
    | none => rw [hd] at o1; exact o1.elim
    | some ds =>
      rw [hd] at o1
      have k := o1 w1 H1 rfl (Step.refl s1.gd)
      rcases seqD_der hd with ⟨ns, e, e2⟩ | e | e
      · subst e e2
        obtain ⟨a1, e1, hl⟩ := rx.1
        subst e1
        exact ⟨a1, rfl, ⟨_, hl.sq⟩, k _ (walk_itl fun w' H' t _ => ⟨_, (t.lck s1.gd hl).sq, RepDs.ofInts ns⟩)⟩
      · obtain ⟨a1, e1, h⟩ := seqL_later s1.gd rx.1 e
        subst e1
        obtain ⟨vs, q1, _⟩ := h w1 H1 (Step.refl s1.gd).tr (stays_src _ _)
        exact ⟨a1, rfl, ⟨vs, q1⟩, k _ (walk_itl h)⟩
      · exact absurd ⟨_, _, _, fx, e⟩ ht
theorem upto_len : ∀ (n : Nat) (a : Int), (upto a n).length = n
  | 0, _ => rfl
  | n + 1, a => by rw [upto, List.length_cons, upto_len n]
theorem upto_get : ∀ (n i : Nat) (a : Int) (d : D), (upto a n)[i]? = some d → d = .int (a + i) ∧ i < n
  | 0, i, a, d, h => by simp [upto] at h
  | n + 1, 0, a, d, h => by
    simp only [upto, List.getElem?_cons_zero, Option.some.injEq] at h
    subst h
    exact ⟨by simp, by omega⟩
  | n + 1, i + 1, a, d, h => by
    simp only [upto, List.getElem?_cons_succ] at h
    obtain ⟨h1, h2⟩ := upto_get n i (a + 1) d h
    subst h1
    exact ⟨by rw [Int.add_assoc, Int.natCast_add, Int.add_comm 1]; rfl, by omega⟩
theorem walk_itr {a : Int} {n : Nat} {w0 : Wd} {H0 : Hp} : WalkOk K (Itr a n) ⟨upto a n, []⟩ w0 H0 := by
  intro i w H t st hi
  refine ⟨fun d hd => ?_, fun e => ?_⟩
  · obtain ⟨h1, h2⟩ := upto_get n i a d hd
    subst h1
    refine ⟨h2, fun x H' y => ?_⟩
    obtain ⟨e1, e2⟩ := y
    subst e1 e2
    exact ⟨Ext.refl _, by simp [RepD]⟩
  · show n ≤ i
    rw [e]
    show n ≤ (upto a n).length
    rw [upto_len]
    exact Nat.le_refl _
theorem sndI_rng1 {T : Tab} {k : Nat} {X : Cx} {c : Cc} (S : Sit T k X W c) {G : Glob} {C : Calls} {fa : Bool} {a : ME} {x tg : Expr} {p pos : Pos} (ha : PE X x (rdE X.K X.mg fa (evE G C a) W)) (hpl : plainX x = true) (hgl : isGl c ("range" : Str) = true) :
    PI X tg (.Call (.Name "range" p) [x] [] pos) (rdI X.K X.mg (evI G C (.rng1 a)) W) := by
  obtain ⟨hg, hd⟩ := glob_of S hgl
  refine PI.weak (pi_range1 hg (S.blt _ (by decide)) (pa_cons ha pa_nil (star_of hpl _ _)) (star_of hpl _ _)) fun σ H R q => ?_
  obtain ⟨w, r, g, en, o⟩ := q
  unfold evI at o
  refine rd_of g en o fun x1 w1 H1 v1 s1 en1 rx o1 => ?_
  split at o1
  · rename_i i
    have rx := rx.1
    simp only [RepV, RepD] at rx
    subst rx
    split at o1
    · rename_i hb
      exact ⟨i, rfl, by omega, by omega, o1 w1 H1 rfl (Step.refl s1.gd) _ walk_itr⟩
    · exact o1.elim
  · exact o1.elim
theorem sndI_rng2 {T : Tab} {k : Nat} {X : Cx} {c : Cc} (S : Sit T k X W c) {G : Glob} {C : Calls} {fa fb : Bool} {a b : ME} {x y tg : Expr} {p pos : Pos} (ha : PE X x (rdE X.K X.mg fa (evE G C a) W)) (hb : PE X y (rdE X.K X.mg fb (evE G C b) W)) (hpl : plainX x = true) (hpy : plainX y = true) (hgl : isGl c ("range" : Str) = true) :
    PI X tg (.Call (.Name "range" p) [x, y] [] pos) (rdI X.K X.mg (evI G C (.rng2 a b)) W) := by
  obtain ⟨hg, hd⟩ := glob_of S hgl
  refine PI.weak (pi_range2 hg (S.blt _ (by decide)) (pa_cons ha (pa_cons hb pa_nil (star_of hpy _ _)) (star_of hpl _ _)) (by rw [star_of hpl, star_of hpy]; rfl) (star_of hpy _ _)) fun σ H R q => ?_
  obtain ⟨w, r, g, en, o⟩ := q
  unfold evI at o
  refine rd_of g en o fun x1 w1 H1 v1 s1 en1 rx o1 => rd_of s1.gd en1 o1 fun y1 w2 H2 v2 s2 en2 ry o2 => ?_
  split at o2
  · rename_i i j
    have rx := rx.1
    have ry := ry.1
    simp only [RepV, RepD] at rx ry
    subst rx ry
    split at o2
    · rename_i hb
      exact ⟨i, j, rfl, by omega, o2 w2 H2 rfl (Step.refl s2.gd) _ walk_itr⟩
    · exact o2.elim
  · exact o2.elim
theorem enumD_get : ∀ (xs : List D) (n i : Nat) (d : D), (enumD n xs)[i]? = some d → ∃ x, xs[i]? = some x ∧ d = .tuple [.int ((n + i : Nat) : Int), x]
  | [], n, i, d, h => by simp [enumD] at h
  | x :: xs, n, 0, d, h => by
    simp only [enumD, List.getElem?_cons_zero, Option.some.injEq] at h
    subst h
    exact ⟨x, rfl, by simp⟩
  | x :: xs, n, i + 1, d, h => by
    simp only [enumD, List.getElem?_cons_succ] at h
    obtain ⟨y, h1, h2⟩ := enumD_get xs (n + 1) i d h
    subst h2
    exact ⟨y, by simpa using h1, by rw [show n + 1 + i = n + (i + 1) by omega]⟩
theorem enumD_len : ∀ (xs : List D) (n : Nat), (enumD n xs).length = xs.length
  | [], _ => rfl
  | x :: xs, n => by rw [enumD, List.length_cons, List.length_cons, enumD_len xs]
theorem repT2 {p : Addr} (g : Good K w H) (hp : H p = none) {a b : D} {x y : V} (h1 : RepD K w H a x) (h2 : RepD K w H b y) : RepD K w (upd H p (.tup [x, y])) (.tuple [a, b]) (.ref p) :=
  rep_newT g hp (by simp only [RepDs]; exact ⟨_, _, rfl, h1, _, _, rfl, h2, rfl⟩)
theorem sndI_enm {T : Tab} {k : Nat} {X : Cx} {c : Cc} (S : Sit T k X W c) {G : Glob} {C : Calls} {fa : Bool} {a : ME} {x tg : Expr} {p pos : Pos} (ht : isTup tg = true) (ha : PE X x (rdE X.K X.mg fa (evE G C a) W)) (hpl : plainX x = true) (hgl : isGl c ("enumerate" : Str) = true) :
    PI X tg (.Call (.Name "enumerate" p) [x] [] pos) (rdI X.K X.mg (evI G C (.enm a)) W) := by
  cases tg <;> simp only [isTup, Bool.false_eq_true] at ht
  obtain ⟨hg, hd⟩ := glob_of S hgl
  refine PI.weak (PI.or (pi_enum hg (S.blt _ (by decide)) (pa_cons ha pa_nil (star_of hpl _ _)) (star_of hpl _ _)) (pi_cnt hg (S.blt _ (by decide)) (pa_cons ha pa_nil (star_of hpl _ _)) (star_of hpl _ _))) fun σ H R q => ?_
  obtain ⟨w, r, g, en, o⟩ := q
  unfold evI at o
  by_cases ht : IsT (evE G C a) r w.S
  · refine .inr (rd_ofE g en o fun x1 w1 H1 v1 fx s1 en1 rx o1 => ?_)
    obtain ⟨ds, e⟩ := ht.of fx
    rw [e] at o1
    have rd := der_rep s1.gd rx.1 e
    simp only [RepR, RepD] at rd
    obtain ⟨a1, vs, e1, h1, h3⟩ := rd
    subst e1
    refine ⟨a1, vs, rfl, h1, o1 w1 H1 rfl (Step.refl s1.gd) _ ?_⟩
    intro i w2 H2 t st hi
    have h1' := t.toMv.tup s1.gd h1
    have h3' := t.repDs s1.gd h3
    refine ⟨fun d hd => ?_, fun e => ?_⟩
    · obtain ⟨y, e1, e2⟩ := enumD_get ds 0 i d hd
      subst e2
      obtain ⟨v, e3, e4⟩ := h3'.get e1
      refine ⟨⟨vs, v, h1', e3⟩, fun x H' yy => ?_⟩
      obtain ⟨Ta, z, f1, f2, f3, f4⟩ := yy
      subst f1 f3
      have q := f4 vs h1'
      rw [e3] at q
      cases q
      refine ⟨Ext.new f2, repT2 t.gd f2 (by simp [RepD]) e4⟩
    · refine ⟨vs, h1', ?_⟩
      rw [← h3'.len, e]
      show ds.length = (enumD 0 ds).length
      rw [enumD_len]
  · refine .inl (rd_ofE g en o fun x1 w1 H1 v1 fx s1 en1 rx o1 => ?_)
    split at o1
    · rename_i ds e
      obtain ⟨a1, e1, h⟩ := seqL_later s1.gd rx.1 e
      subst e1
      obtain ⟨vs, q1, _⟩ := h w1 H1 (Step.refl s1.gd).tr (stays_src _ _)
      refine ⟨a1, vs, rfl, q1, o1 w1 H1 rfl (Step.refl s1.gd) _ ?_⟩
      intro i w2 H2 t st2 hi
      obtain ⟨us, h1, h2⟩ := h w2 H2 t st2
      refine ⟨fun d hd => ?_, fun e => ?_⟩
      · obtain ⟨y, e1, e2⟩ := enumD_get ds 0 i d hd
        subst e2
        obtain ⟨v, e3, e4⟩ := h2.get e1
        refine ⟨⟨us, v, h1, e3⟩, fun x H' yy => ?_⟩
        obtain ⟨Ta, z, f1, f2, f3, f4⟩ := yy
        subst f1 f3
        have q := f4 us h1
        rw [e3] at q
        cases q
        refine ⟨Ext.new f2, repT2 t.gd f2 (by simp [RepD]) e4⟩
      · refine ⟨us, h1, ?_⟩
        rw [← h2.len, e]
        show ds.length ≤ (enumD 0 ds).length
        rw [enumD_len]
        exact Nat.le_refl _
    · rename_i ds e
      exact absurd ⟨_, _, _, fx, e⟩ ht
    · exact o1.elim
theorem zipD_get : ∀ (xs ys : List D) (i : Nat) (d : D), (zipD xs ys)[i]? = some d → ∃ x y, xs[i]? = some x ∧ ys[i]? = some y ∧ d = .tuple [x, y]
  | [], ys, i, d, h => by simp [zipD] at h
  | x :: xs, [], i, d, h => by simp [zipD] at h
  | x :: xs, y :: ys, 0, d, h => by
    simp only [zipD, List.getElem?_cons_zero, Option.some.injEq] at h
    subst h
    exact ⟨x, y, rfl, rfl, rfl⟩
  | x :: xs, y :: ys, i + 1, d, h => by
    simp only [zipD, List.getElem?_cons_succ] at h
    obtain ⟨a, b, h1, h2, h3⟩ := zipD_get xs ys i d h
    exact ⟨a, b, by simpa using h1, by simpa using h2, h3⟩
theorem zipD_len : ∀ (xs ys : List D), (zipD xs ys).length = min xs.length ys.length
  | [], ys => by simp [zipD]
  | x :: xs, [] => by simp [zipD]
  | x :: xs, y :: ys => by rw [zipD, List.length_cons, List.length_cons, List.length_cons, zipD_len xs ys]; omega
theorem sndI_zip {T : Tab} {k : Nat} {X : Cx} {c : Cc} (S : Sit T k X W c) {G : Glob} {C : Calls} {fa fb : Bool} {a b : ME} {x y tg : Expr} {p pos : Pos} (ht : isTup tg = true) (ha : PE X x (rdE X.K X.mg fa (evE G C a) W)) (hb : PE X y (rdE X.K X.mg fb (evE G C b) W)) (hpl : plainX x = true) (hpy : plainX y = true) (hgl : isGl c ("zip" : Str) = true) :
    PI X tg (.Call (.Name "zip" p) [x, y] [] pos) (rdI X.K X.mg (evI G C (.zip a b)) W) := by
  cases tg <;> simp only [isTup, Bool.false_eq_true] at ht
  obtain ⟨hg, hd⟩ := glob_of S hgl
  refine PI.weak (RZ.pi_zipA hg (S.blt _ (by decide)) (pa_cons ha (pa_cons hb pa_nil (star_of hpy _ _)) (star_of hpl _ _)) (star_of hpl _ _) (by rw [star_of hpy]; rfl)) fun σ H R q => ?_
  obtain ⟨w, r, g, en, o⟩ := q
  unfold evI at o
  refine rd_of g en o fun x1 w1 H1 v1 s1 en1 rx o1 => rd_of s1.gd en1 o1 fun y1 w2 H2 v2 s2 en2 ry o2 => ?_
  split at o2
  · rename_i xs ys ex ey
    have rx2 := s2.repV s1.gd rx.1
    obtain ⟨a1, e1, hx⟩ := seqL_later s2.gd rx2 ex
    obtain ⟨b1, e2, hy⟩ := seqL_later s2.gd ry.1 ey
    subst e1 e2
    obtain ⟨vs, q1, _⟩ := hx w2 H2 (Step.refl s2.gd).tr (stays_src _ _)
    obtain ⟨us, q2, _⟩ := hy w2 H2 (Step.refl s2.gd).tr (stays_src _ _)
    refine ⟨a1, b1, vs, us, rfl, .inl ⟨q1, q2, o2 w2 H2 rfl (Step.refl s2.gd) _ ?_⟩⟩
    intro i w3 H3 t st hi
    rw [stays_app, Bool.and_eq_true] at st
    obtain ⟨vs, h1, h2⟩ := hx w3 H3 t st.1
    obtain ⟨us, h3, h4⟩ := hy w3 H3 t st.2
    refine ⟨fun d hd => ?_, fun e => ?_⟩
    · obtain ⟨p1, p2, f1, f2, f3⟩ := zipD_get xs ys i d hd
      subst f3
      obtain ⟨v, e1, e2⟩ := h2.get f1
      obtain ⟨u, e3, e4⟩ := h4.get f2
      refine ⟨⟨vs, us, v, u, h1, h3, e1, e3⟩, fun z H' yy => ?_⟩
      obtain ⟨Ta, z1, z2, k1, k2, k3, k4, k5⟩ := yy
      subst k1 k3
      have q := k4 vs h1
      rw [e1] at q
      cases q
      have q := k5 us h3
      rw [e3] at q
      cases q
      exact ⟨Ext.new k2, repT2 t.gd k2 e2 e4⟩
    · refine ⟨vs, us, h1, h3, ?_⟩
      rw [← h2.len, ← h4.len, e]
      show xs.length ≤ (zipD xs ys).length ∨ ys.length ≤ (zipD xs ys).length
      rw [zipD_len]
      omega
  · rename_i xs ys ex ey
    have rx2 := der_rep s2.gd (s2.repV s1.gd rx.1) ex
    have ry2 := der_rep s2.gd ry.1 ey
    simp only [RepR, RepD] at rx2 ry2
    obtain ⟨a1, vs, e1, q1, hx⟩ := rx2
    obtain ⟨b1, us, e2, q2, hy⟩ := ry2
    subst e1 e2
    refine ⟨a1, b1, vs, us, rfl, .inr ⟨q1, q2, o2 w2 H2 rfl (Step.refl s2.gd) _ ?_⟩⟩
    intro i w3 H3 t st hi
    have h1 := t.toMv.tup s2.gd q1
    have h3 := t.toMv.tup s2.gd q2
    have h2 := t.repDs s2.gd hx
    have h4 := t.repDs s2.gd hy
    refine ⟨fun d hd => ?_, fun e => ?_⟩
    · obtain ⟨p1, p2, f1, f2, f3⟩ := zipD_get xs ys i d hd
      subst f3
      obtain ⟨v, e1, e2⟩ := h2.get f1
      obtain ⟨u, e3, e4⟩ := h4.get f2
      refine ⟨⟨vs, us, v, u, h1, h3, e1, e3⟩, fun z H' yy => ?_⟩
      obtain ⟨Ta, z1, z2, k1, k2, k3, k4, k5⟩ := yy
      subst k1 k3
      have q := k4 vs h1
      rw [e1] at q
      cases q
      have q := k5 us h3
      rw [e3] at q
      cases q
      exact ⟨Ext.new k2, repT2 t.gd k2 e2 e4⟩
    · refine ⟨vs, us, h1, h3, ?_⟩
      rw [← h2.len, ← h4.len, e]
      show xs.length ≤ (zipD xs ys).length ∨ ys.length ≤ (zipD xs ys).length
      rw [zipD_len]
      omega
  · exact o2.elim
/-! ### targets -/
mutual
def gT (K : PySem.W.Frag) : Tgt → TG
  | .nm i => gName i
  | .tp ts => gTup K (lenT ts) (gTs K ts)
def gTs (K : PySem.W.Frag) : Tgts → TGs
  | .nil => gNil
  | .cons t ts => gCons (gT K t) (gTs K ts)
def lenT : Tgts → Nat
  | .nil => 0
  | .cons _ ts => lenT ts + 1
end
theorem wipe_set {v : Option V} {i : Nat} : ∀ {vs : List Nat} (σ : VStk), i ∈ vs → L2.wipe (σ.set i v) vs = L2.wipe σ vs
  | [], σ, h => absurd h (by simp)
  | j :: vs, σ, h => by
    unfold L2.wipe
    by_cases e : i = j
    · subst e
      by_cases hi : i ∈ vs
      · rw [wipe_set σ hi]
      · have q : ∀ (vs : List Nat) (σ : VStk), (L2.wipe (σ.set i v) vs).set i none = (L2.wipe σ vs).set i none := by
          intro vs
          induction vs with
          | nil => intro σ; unfold L2.wipe; rw [List.set_set]
          | cons b bs ih =>
            intro σ
            unfold L2.wipe
            by_cases hb : i = b
            · subst hb
              rw [List.set_set, List.set_set]
              exact ih σ
            · rw [List.set_comm _ _ (Ne.symm hb), ih σ, List.set_comm _ _ (Ne.symm hb)]
        exact q vs σ
    · have hi : i ∈ vs := by
        rcases List.mem_cons.mp h with z | z
        · exact absurd z e
        · exact z
      rw [wipe_set σ hi]
mutual
theorem gT_ok : ∀ {t : Tgt} {d : D} {v : V} {r r1 : Env} {σ : VStk} {Q : VStk → Hp → Prop}, RepD K w H d v → EnvOk K mg w H r σ → bindT t d r = some r1 →
    (∀ σ1, EnvOk K mg w H r1 σ1 → (∀ vs, (∀ i ∈ slots t, i ∈ vs) → L2.wipe σ1 vs = L2.wipe σ vs) → Q σ1 H) → gT K t v σ H Q
  | .nm i, d, v, r, r1, σ, Q, h, en, e, q => by
    unfold bindT at e
    cases e
    unfold gT
    exact q _ (en.set i (x := .d d) h) fun vs hv => wipe_set σ (hv i (by simp [slots]))
  | .tp ts, d, v, r, r1, σ, Q, h, en, e, q => by
    cases d <;> simp only [bindT, reduceCtorEq] at e
    simp only [RepD] at h
    obtain ⟨a, vs, e1, h1, h2⟩ := h
    unfold gT
    refine ⟨a, vs, e1, h1, ?_, gTs_ok h2 en e fun σ1 en1 hw => q σ1 en1 fun vs hv => hw vs fun i hi => hv i (by simpa [slots] using hi)⟩
    rw [← h2.len]
    exact bindTs_len e
theorem gTs_ok : ∀ {ts : Tgts} {ds : List D} {us : List V} {r r1 : Env} {σ : VStk} {Q : VStk → Hp → Prop}, RepDs K w H ds us → EnvOk K mg w H r σ → bindTs ts ds r = some r1 →
    (∀ σ1, EnvOk K mg w H r1 σ1 → (∀ vs, (∀ i ∈ slotss ts, i ∈ vs) → L2.wipe σ1 vs = L2.wipe σ vs) → Q σ1 H) → gTs K ts us σ H Q
  | .nil, ds, us, r, r1, σ, Q, h, en, e, q => by
    cases ds with
    | cons _ _ => simp [bindTs] at e
    | nil =>
      unfold bindTs at e
      cases e
      unfold RepDs at h
      unfold gTs
      exact ⟨h, q σ en fun _ _ => rfl⟩
  | .cons t ts, ds, us, r, r1, σ, Q, h, en, e, q => by
    cases ds with
    | nil => simp [bindTs] at e
    | cons d ds =>
      unfold RepDs at h
      obtain ⟨v, us', e1, h1, h2⟩ := h
      subst e1
      simp only [bindTs] at e
      cases e2 : bindT t d r with
      | none => rw [e2] at e; cases e
      | some r2 =>
        rw [e2] at e
        unfold gTs
        refine ⟨v, us', rfl, gT_ok h1 en e2 fun σ1 en1 w1 => gTs_ok h2 en1 e fun σ2 en2 w2 => q σ2 en2 fun vs hv => ?_⟩
        rw [w2 vs fun i hi => hv i (by simp [slotss, hi]), w1 vs fun i hi => hv i (by simp [slotss, hi])]
theorem bindTs_len : ∀ {ts : Tgts} {ds : List D} {r r1 : Env}, bindTs ts ds r = some r1 → ds.length = lenT ts
  | .nil, ds, r, r1, e => by
    cases ds with
    | nil => rfl
    | cons _ _ => simp [bindTs] at e
  | .cons t ts, ds, r, r1, e => by
    cases ds with
    | nil => simp [bindTs] at e
    | cons d ds =>
      simp only [bindTs] at e
      cases e2 : bindT t d r with
      | none => rw [e2] at e; cases e
      | some r2 =>
        rw [e2] at e
        rw [List.length_cons, lenT, bindTs_len e]
end
end
end Rf
/-! Comprehensions; all expressions. -/
namespace Rf
open PySem PySem.Spec PyProof.Rows L2
section
variable {K : PySem.W.Frag} {mg : Str → Option Value} {w w1 w' : Wd} {H H1 H' : Hp} {W : WX} {σ : VStk} {r : Env}
theorem env_len {t : Tgt} {d : D} : ∀ {r r1 : Env}, bindT t d r = some r1 → True := fun _ => trivial
/-- a reserved list grows: what else stands, stands -/
theorem sqT_upd {D : Addr} {us us' vs : List V} (hD : H D = some (.lst us)) {a : Addr} (h : SqT K H a vs) : SqT K (upd H D (.lst us')) a vs := by
  rcases h with (h | ⟨o, h⟩) | h
  · refine .inl (.inl ?_)
    rw [upd_ne (ne_of h hD (by intro z; cases z))]
    exact h
  · refine .inl (.inr ⟨o, ?_⟩)
    rw [upd_ne (ne_of h hD (by intro z; cases z))]
    exact h
  · exact .inr h
mutual
theorem repD_upd {D : Addr} {us us' : List V} (hD : H D = some (.lst us)) (hr : w.rsv D) : ∀ {d : PyData} {v : V}, RepD K w H d v → RepD K w (upd H D (.lst us')) d v
  | .none, _, h => h
  | .bool _, _, h => h
  | .int _, _, h => h
  | .str _, _, h => h
  | .list xs, _, h => by
    unfold RepD at h ⊢
    obtain ⟨a, vs, e, h1, h2, h3⟩ := h
    refine ⟨a, vs, e, ?_, h2, repDs_upd hD hr h3⟩
    rw [upd_ne (fun z => h2.r (by rw [z]; exact hr))]
    exact h1
  | .tuple xs, _, h => by
    unfold RepD at h ⊢
    obtain ⟨a, vs, e, h1, h3⟩ := h
    exact ⟨a, vs, e, sqT_upd hD h1, repDs_upd hD hr h3⟩
  | .dict _, _, h => by
    unfold RepD at h
    exact h.elim
theorem repDs_upd {D : Addr} {us us' : List V} (hD : H D = some (.lst us)) (hr : w.rsv D) : ∀ {ds : List PyData} {vs : List V}, RepDs K w H ds vs → RepDs K w (upd H D (.lst us')) ds vs
  | [], _, h => h
  | d :: ds, _, h => by
    unfold RepDs at h ⊢
    obtain ⟨v, r, e, h1, h2⟩ := h
    exact ⟨v, r, e, repD_upd hD hr h1, repDs_upd hD hr h2⟩
end
theorem good_upd {D : Addr} {us us' : List V} (g : Good K w H) (hD : H D = some (.lst us)) (hr : w.rsv D) : Good K w (upd H D (.lst us')) := by
  refine ⟨fun n c e => ?_, g.inj, fun a ha => ?_⟩
  · have q := g.cell n c e
    have ne : w.mu n ≠ D := fun z => (g.rs D hr).1 n (List.getElem?_eq_some_iff.mp e).1 z.symm
    cases c with
    | lst xs =>
      obtain ⟨vs, q1, q2⟩ := q
      exact ⟨vs, by rw [upd_ne ne]; exact q1, repDs_upd hD hr q2⟩
    | dct _ => exact q
  · obtain ⟨h1, vs, h2⟩ := g.rs a ha
    refine ⟨h1, ?_⟩
    by_cases e : a = D
    · subst e
      exact ⟨us', upd_same⟩
    · exact ⟨vs, by rw [upd_ne e]; exact h2⟩
/-- with other lists in the making: fewer -/
def Wd.wr (w : Wd) (p : Addr → Prop) : Wd := ⟨w.mu, w.S, p⟩
mutual
theorem repD_fewer {p : Addr → Prop} (hp : ∀ a, p a → w.rsv a) : ∀ {d : PyData} {v : V}, RepD K w H d v → RepD K (w.wr p) H d v
  | .none, _, h => h
  | .bool _, _, h => h
  | .int _, _, h => h
  | .str _, _, h => h
  | .list xs, _, h => by
    unfold RepD at h ⊢
    obtain ⟨a, vs, e, h1, h2, h3⟩ := h
    exact ⟨a, vs, e, h1, ⟨h2.m, fun z => h2.r (hp a z)⟩, repDs_fewer hp h3⟩
  | .tuple xs, _, h => by
    unfold RepD at h ⊢
    obtain ⟨a, vs, e, h1, h3⟩ := h
    exact ⟨a, vs, e, h1, repDs_fewer hp h3⟩
  | .dict _, _, h => by
    unfold RepD at h
    exact h.elim
theorem repDs_fewer {p : Addr → Prop} (hp : ∀ a, p a → w.rsv a) : ∀ {ds : List PyData} {vs : List V}, RepDs K w H ds vs → RepDs K (w.wr p) H ds vs
  | [], _, h => h
  | d :: ds, _, h => by
    unfold RepDs at h ⊢
    obtain ⟨v, r, e, h1, h2⟩ := h
    exact ⟨v, r, e, repD_fewer hp h1, repDs_fewer hp h2⟩
end
theorem good_fewer {p : Addr → Prop} (g : Good K w H) (hp : ∀ a, p a → w.rsv a) : Good K (w.wr p) H := ⟨fun n c e => by
  have q := g.cell n c e
  cases c with
  | lst xs =>
    obtain ⟨vs, q1, q2⟩ := q
    exact ⟨vs, q1, repDs_fewer hp q2⟩
  | dct _ => exact q, g.inj, fun a ha => g.rs a (hp a ha)⟩
/-- one more list is made from here on -/
def res1 (w : Wd) (D : Addr) : Wd := w.wr fun a => w.rsv a ∨ a = D
mutual
theorem repD_res {D : Addr} {us : List V} (hD : H D = none) : ∀ {d : PyData} {v : V}, RepD K w H d v → RepD K (res1 w D) (upd H D (.lst us)) d v
  | .none, _, h => h
  | .bool _, _, h => h
  | .int _, _, h => h
  | .str _, _, h => h
  | .list xs, _, h => by
    unfold RepD at h ⊢
    obtain ⟨a, vs, e, h1, h2, h3⟩ := h
    have ne : a ≠ D := ne_of_none h1 hD
    refine ⟨a, vs, e, by rw [upd_ne ne]; exact h1, ⟨h2.m, fun z => ?_⟩, repDs_res hD h3⟩
    rcases z with z | z
    · exact h2.r z
    · exact ne z
  | .tuple xs, _, h => by
    unfold RepD at h ⊢
    obtain ⟨a, vs, e, h1, h3⟩ := h
    exact ⟨a, vs, e, (Ext.new hD).sqT h1, repDs_res hD h3⟩
  | .dict _, _, h => by
    unfold RepD at h
    exact h.elim
theorem repDs_res {D : Addr} {us : List V} (hD : H D = none) : ∀ {ds : List PyData} {vs : List V}, RepDs K w H ds vs → RepDs K (res1 w D) (upd H D (.lst us)) ds vs
  | [], _, h => h
  | d :: ds, _, h => by
    unfold RepDs at h ⊢
    obtain ⟨v, r, e, h1, h2⟩ := h
    exact ⟨v, r, e, repD_res hD h1, repDs_res hD h2⟩
end
theorem good_res {D : Addr} {us : List V} (g : Good K w H) (hD : H D = none) : Good K (res1 w D) (upd H D (.lst us)) := by
  have od := g.outN hD
  refine ⟨fun n c e => ?_, g.inj, fun a ha => ?_⟩
  · have q := g.cell n c e
    cases c with
    | lst xs =>
      obtain ⟨vs, q1, q2⟩ := q
      exact ⟨vs, Ext.new hD _ _ q1, repDs_res hD q2⟩
    | dct _ => exact q
  · rcases ha with z | z
    · obtain ⟨h1, vs, h2⟩ := g.rs a z
      exact ⟨h1, vs, Ext.new hD _ _ h2⟩
    · subst z
      exact ⟨od.m, us, upd_same⟩
theorem Mv.wr {p : Addr → Prop} (m : Mv w H w' H') : Mv w H (w'.wr p) H' := ⟨m.le, m.mp, m.fr, m.nw⟩
theorem wipe_idem {vs : List Nat} {σ : VStk} : ∀ {us : List Nat}, (∀ i ∈ us, i ∈ vs) → L2.wipe (L2.wipe σ us) vs = L2.wipe σ vs
  | [], _ => rfl
  | i :: us, h => by
    rw [show L2.wipe σ (i :: us) = (L2.wipe σ us).set i none from rfl, wipe_set _ (h i (by simp))]
    exact wipe_idem fun j hj => h j (by simp [hj])
theorem Ext.mv (e : Ext H H') : Mv w H w H' := ⟨Nat.le_refl _, fun _ _ => rfl, fun a o h _ => e a o h, fun n h1 h2 => absurd h2 (by omega)⟩
/-- a list that H does not know may change -/
theorem Mv.upd {D : Addr} {o : HO} (m : Mv w H w' H') (hD : H D = none) : Mv w H w' (upd H' D o) := ⟨m.le, m.mp, fun a u h ho => by
  rw [upd_ne (ne_of_none h hD)]
  exact m.fr a u h ho, m.nw⟩
/-- without a list that is being made -/
theorem sqT_rm {D : Addr} {us vs : List V} (hD : H D = some (.lst us)) {a : Addr} (h : SqT K H a vs) : SqT K (rm H D) a vs := by
  rcases h with (h | ⟨o, h⟩) | h
  · refine .inl (.inl ?_)
    rw [rm_ne (ne_of h hD (by intro z; cases z))]
    exact h
  · refine .inl (.inr ⟨o, ?_⟩)
    rw [rm_ne (ne_of h hD (by intro z; cases z))]
    exact h
  · exact .inr h
mutual
theorem repD_rm {p : Addr → Prop} {D : Addr} {us : List V} (hD : H D = some (.lst us)) (hr : w.rsv D) (hp : ∀ a, p a → w.rsv a) : ∀ {d : PyData} {v : V}, RepD K w H d v → RepD K (w.wr p) (rm H D) d v
  | .none, _, h => h
  | .bool _, _, h => h
  | .int _, _, h => h
  | .str _, _, h => h
  | .list xs, _, h => by
    unfold RepD at h ⊢
    obtain ⟨a, vs, e, h1, h2, h3⟩ := h
    refine ⟨a, vs, e, ?_, ⟨h2.m, fun z => h2.r (hp a z)⟩, repDs_rm hD hr hp h3⟩
    rw [rm_ne (fun z => h2.r (by rw [z]; exact hr))]
    exact h1
  | .tuple xs, _, h => by
    unfold RepD at h ⊢
    obtain ⟨a, vs, e, h1, h3⟩ := h
    exact ⟨a, vs, e, sqT_rm hD h1, repDs_rm hD hr hp h3⟩
  | .dict _, _, h => by
    unfold RepD at h
    exact h.elim
theorem repDs_rm {p : Addr → Prop} {D : Addr} {us : List V} (hD : H D = some (.lst us)) (hr : w.rsv D) (hp : ∀ a, p a → w.rsv a) : ∀ {ds : List PyData} {vs : List V}, RepDs K w H ds vs → RepDs K (w.wr p) (rm H D) ds vs
  | [], _, h => h
  | d :: ds, _, h => by
    unfold RepDs at h ⊢
    obtain ⟨v, r, e, h1, h2⟩ := h
    exact ⟨v, r, e, repD_rm hD hr hp h1, repDs_rm hD hr hp h2⟩
end
theorem good_rm {p : Addr → Prop} {D : Addr} {us : List V} (g : Good K w H) (hD : H D = some (.lst us)) (hr : w.rsv D) (hp : ∀ a, p a → w.rsv a) (hn : ∀ a, p a → a ≠ D) : Good K (w.wr p) (rm H D) := by
  refine ⟨fun n c e => ?_, g.inj, fun a ha => ?_⟩
  · have q := g.cell n c e
    have ne : w.mu n ≠ D := fun z => (g.rs D hr).1 n (List.getElem?_eq_some_iff.mp e).1 z.symm
    cases c with
    | lst xs =>
      obtain ⟨vs, q1, q2⟩ := q
      exact ⟨vs, by rw [show (w.wr p).mu n = w.mu n from rfl, rm_ne ne]; exact q1, repDs_rm hD hr hp q2⟩
    | dct _ => exact q
  · obtain ⟨h1, vs, h2⟩ := g.rs a (hp a ha)
    exact ⟨h1, vs, by rw [rm_ne (hn a ha)]; exact h2⟩
def tQ : Option TT → TT
  | none => tYes
  | some t => t
theorem noErr_ok {A : Type} {n : Nat} {x : Res A} {a : A} {S : Store} (h : noErr n x = .ok a S) : x = .ok a S ∧ S.length = n := by
  cases x with
  | stuck => cases h
  | err _ _ => cases h
  | ok b S' =>
    unfold noErr at h
    simp only at h
    split at h
    · rename_i e
      cases h
      exact ⟨rfl, e⟩
    · cases h
abbrev WF : WX := fun _ _ _ _ => False
theorem snd_lc {X : Cx} (hc : X.calm = true) {G : Glob} {C : Calls} {own : List Nat} {ownN : List (Str × Nat)} {t : Tgt} {it : MI} {q : MEo} {e : ME} {fe : Bool} {x tg y : Expr} {ifs : List Expr} {scope : Scope} {pos : Pos}
    (hN : X.N.Nodup) (hi : PI X tg y (rdI X.K X.mg (evI G C it) W)) (ok : BlkOk X.N X.env.scope scope ownN) (ho : ownN.map (·.2) = own) (hsl : ∀ i ∈ slots t, i ∈ own)
    (hg : ∀ (s : Shared) (H : Hp) (Ca : Addr) (cl : List (Str × Addr)) (fp : List Addr), PG (X.blk s H scope (compEnvC scope cl Ca X.env) fp) tg (gT X.K t))
    (ht : ∀ (s : Shared) (H : Hp) (Ca : Addr) (cl : List (Str × Addr)) (fp : List Addr), PTs (X.blk s H scope (compEnvC scope cl Ca X.env) fp) ifs (tQ ((evC G C q).map fun f => rdT X.K X.mg f WF)))
    (he : ∀ (s : Shared) (H : Hp) (Ca : Addr) (cl : List (Str × Addr)) (fp : List Addr), PE (X.blk s H scope (compEnvC scope cl Ca X.env) fp) x (rdE X.K X.mg fe (evE G C e) WF))
    (hs : ∀ z, foldedSetIterable y X.env z = pure z) : PE X (.ListComp x [⟨tg, y, ifs, 0⟩] scope pos) (rdE X.K X.mg true (evE G C (.lc own t it q e)) W) ∧
      ∀ {σ : VStk} {H : Hp} {Q : VK}, rdE X.K X.mg true (evE G C (.lc own t it q e)) W σ H Q → tLc (rdI X.K X.mg (evI G C it) W) (gT X.K t) (tQ ((evC G C q).map fun f => rdT X.K X.mg f WF)) (rdE X.K X.mg fe (evE G C e) WF) (ownN.map (·.2)) σ H Q := by
  have key : ∀ {σ : VStk} {H : Hp} {Q : VK}, rdE X.K X.mg true (evE G C (.lc own t it q e)) W σ H Q → tLc (rdI X.K X.mg (evI G C it) W) (gT X.K t) (tQ ((evC G C q).map fun f => rdT X.K X.mg f WF)) (rdE X.K X.mg fe (evE G C e) WF) (ownN.map (·.2)) σ H Q := by
    intro σ H Q h
    obtain ⟨w, r, g, en, o⟩ := h
    unfold evE at o
    refine ⟨w, r, g, en, (OutR.bind g o).mono fun wk w1 H1 s1 o1 J hJ => ?_⟩
    intro D hD
    rw [ho]
    -- the loop ends well
    have o2 := OutR.bind s1.gd o1
    generalize hL : noErr w1.S.length (lcLoop wk (wipeE r own) t (evC G C q) (evE G C e) wk.items w1.S []) = L at o2
    cases L with
    | stuck => exact o2.elim
    | err _ _ =>
      cases hx : lcLoop wk (wipeE r own) t (evC G C q) (evE G C e) wk.items w1.S [] <;> rw [hx] at hL <;> simp only [noErr, reduceCtorEq] at hL
      split at hL <;> cases hL
    | ok xsF SF =>
      obtain ⟨hL1, hL2⟩ := noErr_ok hL
      have g1 := s1.gd
      have en1 := (en.step s1 g).wipe own
      have outD : Out w1 D := g1.outN hD
      let Iv : Nat → Hp → Prop := fun i H2 => ∃ (w2 : Wd) (acc : List PyData) (vs : List V), Good X.K w2 H2 ∧ w2.rsv = (res1 w1 D).rsv ∧ Mv w1 H1 w2 H2 ∧ H2 D = some (.lst vs) ∧ RepDs X.K w2 H2 acc vs ∧
        lcLoop wk (wipeE r own) t (evC G C q) (evE G C e) (wk.items.drop i) w2.S acc = .ok xsF SF
      refine ⟨fun i m H2 => m = wk.items.length - i ∧ i ≤ wk.items.length ∧ Iv i H2, ⟨wk.items.length, by simp, Nat.zero_le _, ?_⟩, ?_⟩
      · -- the start
        exact ⟨res1 w1 D, [], [], good_res g1 hD, rfl, ((Ext.new hD).mv (w := w1)).wr, upd_same, by simp [RepDs], by rw [List.drop_zero]; exact hL1⟩
      · rintro i m H2 ⟨rfl, hi, w2, acc, vs, g2, hrv, mv, hDv, hacc, hloop⟩
        have hDr : w2.rsv D := by rw [hrv]; exact .inr rfl
        have tr : Tr X.K w1 H1 w2 H2 := ⟨mv, fun a ha => by
          rw [hrv] at ha
          rcases ha with z | z
          · exact .inl z
          · exact .inr (by rw [z]; exact hD), g2⟩
        by_cases hlt : i < wk.items.length
        · rw [List.drop_eq_getElem_cons hlt] at hloop
          unfold lcLoop at hloop
          split at hloop
          · rename_i hcond
            obtain ⟨hst, hlen⟩ := hcond
            obtain ⟨hgo, hy⟩ := (hJ i w2 H2 tr hst hi).1 wk.items[i] (List.getElem?_eq_getElem hlt)
            cases hb : bindT t wk.items[i] (wipeE r own) with
            | none => rw [hb] at hloop; cases hloop
            | some r1 =>
              simp only [hb] at hloop
              refine .inr ⟨hgo, Iv (i + 1), fun H' p' => ⟨wk.items.length - (i + 1), by omega, rfl, hlt, p'⟩, fun x1 H3 hy3 => ?_⟩
              obtain ⟨ex, rd⟩ := hy x1 H3 hy3
              have g3 := ex.good g2
              refine gT_ok rd ((en1.tr tr g1).step (ex.step g2) g2) hb fun σ2 en2 hw => ⟨(hw own hsl).trans (wipe_idem fun _ z => z), ?_⟩
              have at3 : H3 D = some (.lst vs) := ex D _ hDv
              have acc3 : RepDs X.K w2 H3 acc vs := ex.repDs hacc
              have fin : ∀ (b : Bool) (w4 : Wd) (H4 : Hp), Step X.K w2 H3 w4 H4 →
                  (if b = true then (evE G C e r1 w4.S).bind fun v S2 => match keep v with
                    | some y => lcLoop wk (wipeE r own) t (evC G C q) (evE G C e) (wk.items.drop (i + 1)) S2 (acc ++ [y])
                    | none => .stuck
                  else lcLoop wk (wipeE r own) t (evC G C q) (evE G C e) (wk.items.drop (i + 1)) w4.S acc) = .ok xsF SF →
                  (if b = true then rdE X.K X.mg fe (evE G C e) WF σ2 H4 (fun y H5 => ∃ acc, H5 D = some (.lst acc) ∧ acc.length < sizeLine ∧ Iv (i + 1) (L2.upd H5 D (.lst (acc ++ [y])))) else Iv (i + 1) H4) := by
                intro b w4 H4 s4 hb4
                have mv4 : Mv w1 H1 w4 H4 := mv.trans g2 (ex.mv.trans g3 s4.toMv)
                have rv4 : w4.rsv = (res1 w1 D).rsv := s4.rv.trans hrv
                have at4 : H4 D = some (.lst vs) := s4.fr D _ at3 (g2.rs D hDr).1
                have acc4 := s4.repDs g3 acc3
                cases b with
                | false =>
                  rw [if_neg Bool.false_ne_true] at hb4 ⊢
                  exact ⟨w4, acc, vs, s4.gd, rv4, mv4, at4, acc4, hb4⟩
                | true =>
                  rw [if_pos rfl] at hb4 ⊢
                  refine ⟨w4, r1, s4.gd, en2.step s4 g3, ?_⟩
                  cases hev : evE G C e r1 w4.S with
                  | stuck => rw [hev] at hb4; cases hb4
                  | err _ _ => rw [hev] at hb4; cases hb4
                  | ok y1 S5 =>
                    rw [hev] at hb4
                    simp only [Res.bind_ok] at hb4
                    intro w5 H5 e5 s5 v5 rf
                    subst e5
                    cases y1 with
                    | loc _ => cases hb4
                    | scr _ => cases hb4
                    | fn _ => cases hb4
                    | d y1 =>
                      simp only [keep] at hb4
                      have at5 : H5 D = some (.lst vs) := s5.fr D _ at4 (s4.gd.rs D (by rw [rv4]; exact .inr rfl)).1
                      have r5 : w5.rsv D := by rw [s5.rv, rv4]; exact .inr rfl
                      have acc5 := s5.repDs s4.gd acc4
                      refine ⟨vs, at5, lim_lt (by rw [← hacc.len]; exact hlen), ?_⟩
                      exact ⟨w5, acc ++ [y1], vs ++ [v5], good_upd s5.gd at5 r5, s5.rv.trans rv4, (mv4.trans s4.gd s5.toMv).upd hD, upd_same, (repDs_upd at5 r5 acc5).append (by simp only [RepDs]; exact ⟨v5, [], rfl, repD_upd at5 r5 rf.1, rfl⟩), hb4⟩
              cases hq : evC G C q with
              | none =>
                rw [hq] at hloop
                simp only [Res.bind_ok] at hloop
                have := fin true w2 H3 (Step.refl g3) (by rw [hq]; exact hloop)
                exact this
              | some f =>
                rw [hq] at hloop
                simp only at hloop
                refine ⟨w2, r1, g3, en2, ?_⟩
                cases hf : f r1 w2.S with
                | stuck => rw [hf] at hloop; cases hloop
                | err _ _ => rw [hf] at hloop; cases hloop
                | ok y1 S4 =>
                  rw [hf] at hloop
                  simp only [Res.bind_ok] at hloop
                  intro w4 H4 e4 s4
                  subst e4
                  cases hb : tru w4.S y1 with
                  | none => rw [hb] at hloop; cases hloop
                  | some b =>
                    rw [hb] at hloop
                    simp only [Res.lift_some, Res.bind_ok] at hloop
                    exact fin b w4 H4 s4 (by rw [hq]; exact hloop)
          · cases hloop
        · have e1 : i = wk.items.length := by omega
          subst e1
          rw [List.drop_length] at hloop
          unfold lcLoop at hloop
          split at hloop
          · rename_i hst
            cases hloop
            refine .inl ⟨(hJ _ w2 H2 tr hst (Nat.le_refl _)).2 rfl, ?_⟩
            have gf : Good X.K (w2.wr w1.rsv) H2 := good_fewer g2 fun a ha => by rw [hrv]; exact .inl ha
            have sF : Step X.K w1 H1 (w2.wr w1.rsv) H2 := ⟨mv.wr, rfl, gf⟩
            have oD : Out (w2.wr w1.rsv) D := ⟨(g2.rs D hDr).1, outD.r⟩
            have accF : RepDs X.K (w2.wr w1.rsv) H2 xsF vs := repDs_fewer (fun a ha => by rw [hrv]; exact .inl ha) hacc
            have q2 := o2 (w2.wr w1.rsv) H2 rfl sF
            exact q2 (w2.wr w1.rsv) H2 rfl (Step.refl gf) (.ref D) ⟨by simp only [RepV, RepD]; exact ⟨D, vs, rfl, hDv, oD, accF⟩, fun _ ys ey => by
              cases ey
              refine ⟨D, vs, rfl, s1.toMv.back g1 hD, hDv, ?_, ?_⟩
              · exact good_rm (p := w1.rsv) g2 hDv hDr (fun a ha => by rw [hrv]; exact .inl ha) fun a ha e => by
                  subst e
                  exact outD.r ha
              · exact repDs_rm (p := w1.rsv) hDv hDr (fun a ha => by rw [hrv]; exact .inl ha) hacc⟩
          · cases hloop
  exact ⟨PE.weak (pe_lc hc hN hi ok hg ht he hs) fun σ H Q h => key h, key⟩
end
end Rf
/-! All expressions. -/
namespace Rf
open PySem PySem.Spec PyProof.Rows L2
section
theorem Sit.blk {T : Tab} {k : Nat} {X : Cx} {W : WX} {c : Cc} (S : Sit T k X W c) (s : Shared) (H : Hp) (scope : Scope) (cl : List (Str × Addr)) (Ca : Addr) (fp : List Addr) : Sit T k (X.blk s H scope (compEnvC scope cl Ca X.env) fp) WF (Rf.blk c scope) where
  N := S.N
  sc := by
    show relS scope X.env.scope = relS scope c.sc
    rw [S.sc]
  fn := rfl
  nd := S.nd
  tk := takes0
  cm := S.cm
  room := S.room
  un := S.un
  gl := S.gl
  blt := S.blt
  fs := S.fs
  defs := S.defs
/-- targets -/
structure TSit (X : Cx) (c : Cc) : Prop where
  N : X.N = c.N
  sc : X.env.scope = c.sc
  fn : X.fn = c.fn
  nd : X.N.Nodup
  cm : X.calm = true
theorem Sit.t {T : Tab} {k : Nat} {X : Cx} {W : WX} {c : Cc} (S : Sit T k X W c) (hc : c.calm = true) : TSit X c := ⟨S.N, S.sc, S.fn, S.nd, S.cm hc⟩
theorem chkT_len {c : Cc} : ∀ {ts : Tgts} {es : List Expr}, chkTs c ts es = true → es.length = lenT ts
  | .nil, [], _ => rfl
  | .nil, _ :: _, h => by simp [chkTs] at h
  | .cons _ _, [], h => by simp [chkTs] at h
  | .cons t ts, e :: es, h => by
    simp only [chkTs, Bool.and_eq_true] at h
    rw [List.length_cons, lenT, chkT_len h.2]
theorem asg_each {c : Cc} {t : Tgt} {e : Expr} (h : chkT c t e = true) (es : List Expr) (env : PySem.Env) : assignEach (e :: es) env = (false, assign e env) :: assignEach es env := by
  cases t <;> cases e <;> first | rfl | (simp [chkT] at h)
theorem asg_len {c : Cc} {env : PySem.Env} : ∀ {ts : Tgts} {es : List Expr}, chkTs c ts es = true → (assignEach es env).length = lenT ts ∧ (assignEach es env).findIdx? (·.1) = none
  | .nil, [], _ => ⟨rfl, rfl⟩
  | .nil, _ :: _, h => by simp [chkTs] at h
  | .cons _ _, [], h => by simp [chkTs] at h
  | .cons t ts, e :: es, h => by
    simp only [chkTs, Bool.and_eq_true] at h
    obtain ⟨h1, h2⟩ := asg_len (env := env) h.2
    rw [asg_each h.1]
    refine ⟨by rw [List.length_cons, lenT, h1], ?_⟩
    rw [List.findIdx?_cons]
    simp only [Bool.false_eq_true, if_false, h2]
    rfl
mutual
theorem sndT {X : Cx} {c : Cc} (S : TSit X c) : ∀ {t : Tgt} {e : Expr}, chkT c t e = true → PG X e (gT X.K t)
  | .nm i, e, h => by
    cases e <;> simp only [chkT, Bool.false_eq_true] at h
    rename_i x p
    unfold sto at h
    simp only [Bool.and_eq_true, decide_eq_true_eq] at h
    obtain ⟨h1, h2⟩ := h
    unfold gT
    cases hl : c.sc.names.lookup x with
    | none => rw [hl] at h2; cases h2
    | some kd =>
      rw [hl] at h2
      cases kd <;> simp only [Bool.false_eq_true] at h2
      · exact pg_name S.nd (by rw [S.N]; exact h1) (.inl (by rw [S.sc]; exact hl)) (.inr (by rw [S.sc]; exact hl))
      · exact pg_name S.nd (by rw [S.N]; exact h1) (.inr (by rw [S.sc]; exact hl)) (.inl (by rw [S.fn]; exact h2))
  | .tp ts, e, h => by
    cases e <;> simp only [chkT, Bool.false_eq_true] at h
    unfold gT
    obtain ⟨h1, h2⟩ := asg_len (env := X.env) h
    exact pg_tup S.cm (sndTs S h) h1 h2
theorem sndTs {X : Cx} {c : Cc} (S : TSit X c) : ∀ {ts : Tgts} {es : List Expr}, chkTs c ts es = true → PGs X es (gTs X.K ts)
  | .nil, [], _ => by
    unfold gTs
    exact pgs_nil
  | .nil, _ :: _, h => by simp [chkTs] at h
  | .cons _ _, [], h => by simp [chkTs] at h
  | .cons t ts, e :: es, h => by
    simp only [chkTs, Bool.and_eq_true] at h
    unfold gTs
    exact pgs_cons (sndT S h.1) (sndTs S h.2) (by rw [asg_each h.1]; rfl)
end
theorem tests_ok {X : Cx} {G : Glob} {C : Calls} {q : MEo} {ifs : List Expr} {c : Cc} (h : chkQ c q ifs = true) (hs : ∀ m x, q = .some m → ifs = [x] → PT X x (rdT X.K X.mg (evE G C m) WF)) : PTs X ifs (tQ ((evC G C q).map fun f => rdT X.K X.mg f WF)) := by
  cases q with
  | none =>
    cases ifs with
    | nil => exact pts_nil
    | cons _ _ => simp [chkQ] at h
  | some m =>
    cases ifs with
    | nil => simp [chkQ] at h
    | cons x r =>
      cases r with
      | nil => exact pts_one (hs m x rfl rfl)
      | cons _ _ => simp [chkQ] at h
theorem own_map (c : Cc) : ∀ own : List Nat, (ownS c own).map (·.2) = own
  | [] => rfl
  | i :: is => by
    show i :: (ownS c is).map (·.2) = i :: is
    rw [own_map c is]
mutual
theorem sndE {T : Tab} {k : Nat} : ∀ (m : ME) {c : Cc} {e : Expr} {X : Cx} {W : WX}, Sit T k X W c → chkE c m e = true → Snd X W (isFr T.fr m) (evE T.gl (call T k) m) e
  | .var i, c, e, X, W, S, h => by
    cases e <;> try (simp only [chkE, Bool.false_eq_true] at h)
    exact snd_var S h
  | .cint i, c, e, X, W, S, h => by
    cases e <;> try (simp only [chkE, Bool.false_eq_true] at h)
    rename_i v kk p
    cases v <;> try (simp only [chkE, Bool.false_eq_true] at h)
    have e := eq_of_beq h
    subst e
    exact snd_con pe_int (fun r S => by unfold evE; rfl) (fun w H => by simp [RepD]) (by intro _; rfl) (by intro _ _ _ q; cases q)
  | .cstr i, c, e, X, W, S, h => by
    cases e <;> try (simp only [chkE, Bool.false_eq_true] at h)
    rename_i v kk p
    cases v <;> try (simp only [chkE, Bool.false_eq_true] at h)
    have e := eq_of_beq h
    subst e
    exact snd_con pe_str (fun r S => by unfold evE; rfl) (fun w H => by simp [RepD]) (by intro _; rfl) (by intro _ _ _ q; cases q)
  | .cbl i, c, e, X, W, S, h => by
    cases e <;> try (simp only [chkE, Bool.false_eq_true] at h)
    rename_i v kk p
    cases v <;> try (simp only [chkE, Bool.false_eq_true] at h)
    have e := eq_of_beq h
    subst e
    exact snd_con pe_bl (fun r S => by unfold evE; rfl) (fun w H => by simp [RepD]) (by intro _; rfl) (by intro _ _ _ q; cases q)
  | .cnon, c, e, X, W, S, h => by
    cases e <;> try (simp only [chkE, Bool.false_eq_true] at h)
    rename_i v kk p
    cases v <;> try (simp only [chkE, Bool.false_eq_true] at h)
    exact snd_con pe_non (fun r S => by unfold evE; rfl) (fun w H => by simp [RepD]) (by intro _; rfl) (by intro _ _ _ q; cases q)
  | .gl x, c, e, X, W, S, h => by
    cases e <;> try (simp only [chkE, Bool.false_eq_true] at h)
    simp only [Bool.and_eq_true] at h
    obtain ⟨h1, h2⟩ := h
    have e := eq_of_beq h1
    subst e
    exact snd_gl S h2
  | .tup es, c, e, X, W, S, h => by
    cases e <;> try (simp only [chkE, Bool.false_eq_true] at h)
    exact snd_tup (sndEs es S h)
  | .lst es, c, e, X, W, S, h => by
    cases e <;> try (simp only [chkE, Bool.false_eq_true] at h)
    exact snd_lst (sndEs es S h)
  | .bin op a b, c, e, X, W, S, h => by
    cases e <;> try (simp only [chkE, Bool.false_eq_true] at h)
    simp only [Bool.and_eq_true, decide_eq_true_eq] at h
    obtain ⟨⟨h1, h2⟩, h3⟩ := h
    subst h1
    exact snd_bin (sndE a S h2).pe (sndE b S h3).pe
  | .neg a, c, e, X, W, S, h => by
    cases e <;> try (simp only [chkE, Bool.false_eq_true] at h)
    rename_i op x p
    cases op <;> try (simp only [chkE, Bool.false_eq_true] at h)
    exact snd_neg (sndE a S h).pe
  | .not a, c, e, X, W, S, h => by
    cases e <;> try (simp only [chkE, Bool.false_eq_true] at h)
    rename_i op x p
    cases op <;> try (simp only [chkE, Bool.false_eq_true] at h)
    exact snd_not (sndE a S h)
  | .and a b, c, e, X, W, S, h => by
    cases e <;> try (simp only [chkE, Bool.false_eq_true] at h)
    rename_i op vs p
    cases op <;> try (simp only [chkE, Bool.false_eq_true] at h)
    match vs, h with
    | [], h => simp [chkE] at h
    | [_], h => simp [chkE] at h
    | [x, y], h =>
      simp only [chkE, Bool.and_eq_true] at h
      have h1 := sndE a S h.1
      have h2 := sndE b S h.2
      exact ⟨and_pe h1.pe (pe_one h2.pe), (and_pw h1.pt (pw_and1 h2.pt)).pt, fun _ => and_pw h1.pt (pw_and1 h2.pt)⟩
    | x :: y :: z :: r, h =>
      simp only [chkE, Bool.and_eq_true] at h
      have h1 := sndE a S h.1
      have h2 := sndE b S h.2
      have h3 := and_pw (W := W) h1.pt (h2.pw ⟨_, _, _, rfl⟩)
      exact ⟨and_pe h1.pe h2.pe, h3.pt, fun _ => h3⟩
  | .or a b, c, e, X, W, S, h => by
    cases e <;> try (simp only [chkE, Bool.false_eq_true] at h)
    rename_i op vs p
    cases op <;> try (simp only [chkE, Bool.false_eq_true] at h)
    match vs, h with
    | [], h => simp [chkE] at h
    | [_], h => simp [chkE] at h
    | [x, y], h =>
      simp only [chkE, Bool.and_eq_true] at h
      have h1 := sndE a S h.1
      have h2 := sndE b S h.2
      exact ⟨or_pe h1.pe (pe_one h2.pe), (or_pw h1.pt (pw_or1 h2.pt)).pt, fun _ => or_pw h1.pt (pw_or1 h2.pt)⟩
    | x :: y :: z :: r, h =>
      simp only [chkE, Bool.and_eq_true] at h
      have h1 := sndE a S h.1
      have h2 := sndE b S h.2
      have h3 := or_pw (W := W) h1.pt (h2.pw ⟨_, _, _, rfl⟩)
      exact ⟨or_pe h1.pe h2.pe, h3.pt, fun _ => h3⟩
  | .cmp op a b, c, e, X, W, S, h => by
    cases e <;> try (simp only [chkE, Bool.false_eq_true] at h)
    rename_i x ops ys p
    match ops, ys, h with
    | [o], [y], h =>
      simp only [chkE, Bool.and_eq_true, decide_eq_true_eq] at h
      obtain ⟨⟨h1, h2⟩, h3⟩ := h
      subst h1
      exact snd_cmp S.un (sndE a S h2).pe (sndE b S h3).pe (mark_of (chk_plain h3) _)
    | [], _, h => simp [chkE] at h
    | [_], [], h => simp [chkE] at h
    | [_], _ :: _ :: _, h => simp [chkE] at h
    | _ :: _ :: _, _, h => simp [chkE] at h
  | .cmp2 op op' a b d, c, e, X, W, S, h => by
    cases e <;> try (simp only [chkE, Bool.false_eq_true] at h)
    rename_i x ops ys p
    match ops, ys, h with
    | [o1, o2], [y, z], h =>
      simp only [chkE, Bool.and_eq_true, decide_eq_true_eq] at h
      obtain ⟨⟨⟨⟨h1, h2⟩, h3⟩, h4⟩, h5⟩ := h
      subst h1 h2
      exact snd_cmp2 S.un (sndE a S h3).pe (sndE b S h4).pe (sndE d S h5).pe (mark_of (chk_plain h5) _)
    | [], _, h => simp [chkE] at h
    | [_], _, h => simp [chkE] at h
    | [_, _], [], h => simp [chkE] at h
    | [_, _], [_], h => simp [chkE] at h
    | [_, _], _ :: _ :: _ :: _, h => simp [chkE] at h
    | _ :: _ :: _ :: _, _, h => simp [chkE] at h
  | .ife t a b, c, e, X, W, S, h => by
    cases e <;> try (simp only [chkE, Bool.false_eq_true] at h)
    simp only [Bool.and_eq_true] at h
    exact snd_ife (sndE t S h.1.1) (sndE a S h.1.2) (sndE b S h.2)
  | .call f es, c, e, X, W, S, h => by
    cases e <;> try (simp only [chkE, Bool.false_eq_true] at h)
    rename_i fn xs kw p
    cases fn <;> try (simp only [chkE, Bool.false_eq_true] at h)
    cases kw <;> try (simp only [chkE, Bool.false_eq_true] at h)
    simp only [Bool.and_eq_true] at h
    obtain ⟨⟨⟨h1, h2, h3⟩, h4⟩, h5⟩ := h
    have e := eq_of_beq h2
    subst e
    exact snd_call S h1 h3 h4 h5 (sndEs es S h5)
  | .blt b es, c, e, X, W, S, h => by
    cases e <;> try (simp only [chkE, Bool.false_eq_true] at h)
    rename_i fn xs kw p
    cases fn <;> try (simp only [chkE, Bool.false_eq_true] at h)
    cases kw <;> try (simp only [chkE, Bool.false_eq_true] at h)
    simp only [Bool.and_eq_true, Bool.not_eq_true'] at h
    obtain ⟨⟨⟨h1, h2, h3⟩, h4⟩, h5⟩ := h
    have e := eq_of_beq h2
    subst e
    rw [isFrB_is]
    exact snd_blt S h1 h3 h4 h5 (sndEs es S h5)
  | .isi a ts, c, e, X, W, S, h => by
    unfold chkE at h
    split at h <;> first | contradiction | skip
    rename_i eq1
    cases eq1
    simp only [Bool.and_eq_true] at h
    obtain ⟨⟨⟨h1, h2⟩, h3⟩, h4⟩ := h
    have e := eq_of_beq h1
    subst e
    exact snd_isi S (sndE a S h3).pe (chk_plain h3) h2 h4.1 (of_decide_eq_true h4.2)
  | .isi1 a t, c, e, X, W, S, h => by
    unfold chkE at h
    split at h <;> first | contradiction | skip
    rename_i eq1
    cases eq1
    simp only [Bool.and_eq_true] at h
    obtain ⟨⟨⟨⟨h1, h2⟩, h3⟩, h4⟩, h5, h6⟩ := h
    have e := eq_of_beq h1
    subst e
    exact snd_isi1 S (sndE a S h3).pe (chk_plain h3) h2 h4 h5 h6
  | .idx a i, c, e, X, W, S, h => by
    cases e <;> try (simp only [chkE, Bool.false_eq_true] at h)
    simp only [Bool.and_eq_true] at h
    exact snd_idx (sndE a S h.1).pe (sndE i S h.2).pe (chk_plain h.2)
  | .slc a lo hi, c, e, X, W, S, h => by
    cases e <;> try (simp only [chkE, Bool.false_eq_true] at h)
    rename_i x y p
    cases y <;> try (simp only [chkE, Bool.false_eq_true] at h)
    rename_i l u st p2
    cases st <;> try (simp only [chkE, Bool.false_eq_true] at h)
    simp only [Bool.and_eq_true] at h
    exact snd_slc (sndE a S h.1.1).pe (sndO lo S h.1.2) (sndO hi S h.2)
  | .rev a, c, e, X, W, S, h => by
    unfold chkE at h
    split at h <;> first | contradiction | skip
    rename_i eq1
    cases eq1
    exact snd_rev (sndE a S h).pe
  | .lc own t it q x, c, e, X, W, S, h => by
    unfold chkE at h
    split at h <;> first | contradiction | skip
    rename_i eq1
    cases eq1
    simp only [Bool.and_eq_true] at h
    obtain ⟨⟨⟨⟨⟨⟨h1, h2⟩, h3⟩, h4⟩, h5⟩, h6⟩, h7⟩ := h
    refine Snd.of (snd_lc (fe := isFr T.fr x) (ownN := ownS c own) (S.cm h1) S.nd (sndI it S h5).1 (by rw [S.N, S.sc]; exact blkOk_by h2) (own_map c own) (fun i hi => ?_) (fun s H Ca cl fp => sndT ((S.blk s H _ cl Ca fp).t h1) h3)
      (fun s H Ca cl fp => sndQ q (S.blk s H _ cl Ca fp) h6) (fun s H Ca cl fp => (sndE x (S.blk s H _ cl Ca fp) h7).pe) (sndI it S h5).2).1 (by intro _; rfl) (by intro _ _ _ q; cases q)
    have := List.all_eq_true.mp h4 i hi
    exact List.contains_iff_mem.mp this
theorem sndEs {T : Tab} {k : Nat} : ∀ (m : MEs) {c : Cc} {e : List Expr} {X : Cx} {W : WX}, Sit T k X W c → chkEs c m e = true → PA X e (rdA X.K X.mg (evEs T.gl (call T k) m) W)
  | .nil, c, e, X, W, S, h => by
    cases e with
    | nil => exact sndA_nil
    | cons _ _ => simp [chkEs] at h
  | .cons a b, c, e, X, W, S, h => by
    cases e with
    | nil => simp [chkEs] at h
    | cons x y =>
      simp only [chkEs, Bool.and_eq_true] at h
      exact sndA_cons (sndE a S h.1).pe (sndEs b S h.2) (chk_plain h.1)
theorem sndO {T : Tab} {k : Nat} : ∀ (m : MEo) {c : Cc} {e : Option Expr} {X : Cx} {W : WX}, Sit T k X W c → chkO c m e = true → PO X e (rdO X.K X.mg (evO T.gl (call T k) m) W)
  | .none, c, e, X, W, S, h => by
    cases e with
    | none => exact sndO_none
    | some _ => simp [chkO] at h
  | .some a, c, e, X, W, S, h => by
    cases e with
    | none => simp [chkO] at h
    | some x =>
      simp only [chkO] at h
      exact sndO_some (sndE a S h).pe
theorem sndQ {T : Tab} {k : Nat} : ∀ (m : MEo) {c : Cc} {e : List Expr} {X : Cx}, Sit T k X WF c → chkQ c m e = true → PTs X e (tQ ((evC T.gl (call T k) m).map fun f => rdT X.K X.mg f WF))
  | .none, c, e, X, S, h => by
    cases e with
    | nil => exact pts_nil
    | cons _ _ => simp [chkQ] at h
  | .some a, c, e, X, S, h => by
    cases e with
    | nil => simp [chkQ] at h
    | cons x r =>
      cases r with
      | cons _ _ => simp [chkQ] at h
      | nil =>
        simp only [chkQ] at h
        exact pts_one (sndE a S h).pt
theorem sndI {T : Tab} {k : Nat} : ∀ (m : MI) {c : Cc} {tg e : Expr} {X : Cx} {W : WX}, Sit T k X W c → chkI c m tg e = true → PI X tg e (rdI X.K X.mg (evI T.gl (call T k) m) W) ∧ ∀ z, foldedSetIterable e X.env z = pure z
  | .over a, c, tg, e, X, W, S, h => by
    simp only [chkI] at h
    exact ⟨sndI_over (sndE a S h).pe, fun z => fold_of (chk_plain h) _ _⟩
  | .rng1 a, c, tg, e, X, W, S, h => by
    unfold chkI at h
    split at h <;> first | contradiction | skip
    rename_i eq1
    cases eq1
    simp only [Bool.and_eq_true] at h
    obtain ⟨⟨h1, h2⟩, h3⟩ := h
    have e := eq_of_beq h1
    subst e
    exact ⟨sndI_rng1 S (sndE a S h3).pe (chk_plain h3) h2, fun z => rfl⟩
  | .rng2 a b, c, tg, e, X, W, S, h => by
    unfold chkI at h
    split at h <;> first | contradiction | skip
    rename_i eq1
    cases eq1
    simp only [Bool.and_eq_true] at h
    obtain ⟨⟨⟨h1, h2⟩, h3⟩, h4⟩ := h
    have e := eq_of_beq h1
    subst e
    exact ⟨sndI_rng2 S (sndE a S h3).pe (sndE b S h4).pe (chk_plain h3) (chk_plain h4) h2, fun z => rfl⟩
  | .enm a, c, tg, e, X, W, S, h => by
    unfold chkI at h
    split at h <;> first | contradiction | skip
    rename_i eq1
    cases eq1
    simp only [Bool.and_eq_true] at h
    obtain ⟨⟨h0, h1, h2⟩, h3⟩ := h
    have e := eq_of_beq h1
    subst e
    exact ⟨sndI_enm S h0 (sndE a S h3).pe (chk_plain h3) h2, fun z => rfl⟩
  | .zip a b, c, tg, e, X, W, S, h => by
    unfold chkI at h
    split at h <;> first | contradiction | skip
    rename_i eq1
    cases eq1
    simp only [Bool.and_eq_true] at h
    obtain ⟨⟨⟨h0, h1, h2⟩, h3⟩, h4⟩ := h
    have e := eq_of_beq h1
    subst e
    exact ⟨sndI_zip S h0 (sndE a S h3).pe (sndE b S h4).pe (chk_plain h3) (chk_plain h4) h2, fun z => rfl⟩
end
end
end Rf
/-! Statements. -/
namespace Rf
open PySem PySem.Spec PyProof.Rows L2
def isLcE : Expr → Bool
  | .ListComp .. => true
  | .SetComp .. => true
  | .DictComp .. => true
  | _ => false
def isTupE : Expr → Bool
  | .Tuple .. => true
  | _ => false
def locN (c : Cc) (x : Str) : Bool := decide (c.sc.names.lookup x = some .local)
def swT (c : Cc) (x : Str) (p1 : Pos) : Expr → Bool
  | .ListComp _ _ s p2 => locN c x && (p1.line == p2.line) && !(s.names.any fun (n, k) => n == x && (k == .local || k == .cell))
  | _ => false
mutual
def chkS (c : Cc) : MS → Stmt → Bool
  | .asg i e, .Assign [.Name x p1] v p2 => sto c i x && chkE c e v && (swT c x p1 v || !isLcE v || !locN c x)
  | .asgN i e, .Assign [.Name x p1] v p2 => sto c i x && chkE c e v && (swT c x p1 v || !isLcE v || !locN c x)
  | .asgT t e, .Assign [.Tuple xs k p1] v p2 => c.calm && chkT c t (.Tuple xs k p1) && chkE c e v && (!isTupE v || decide (3 < xs.length) || xs.any fun x => match x with | .Name id _ => !locN c id | _ => true)
  | .asg2 i j a b, .Assign [.Tuple [.Name x p1, .Name y p3] k p4] (.Tuple [u, v] k2 p5) p2 => c.calm && decide (c.N[i]? = some x) && decide (c.N[j]? = some y) && decide (i ≠ j) && locN c x && locN c y && (p1.line == p3.line) && !(x == y) && chkE c a u && chkE c b v &&
      !([u, v].all (foldedForSure 8)) && !([u, v].all (constantsAlone 8)) && (match c.sc.kind with | .function => true | _ => false)
  | .asg3 i j l a b e, .Assign [.Tuple [.Name x p1, .Name y p3, .Name z p6] k p4] (.Tuple [u, v, w] k2 p5) p2 => c.calm && decide (c.N[i]? = some x) && decide (c.N[j]? = some y) && decide (c.N[l]? = some z) && decide (i ≠ j) && decide (i ≠ l) && decide (j ≠ l) && locN c x && locN c y && locN c z &&
      (p1.line == p3.line) && (p1.line == p6.line) && !(x == y) && !(x == z) && !(y == z) && chkE c a u && chkE c b v && chkE c e w &&
      !([u, v, w].all (foldedForSure 8)) && !([u, v, w].all (constantsAlone 8)) && (match c.sc.kind with | .function => true | _ => false)
  | .aug i op e, .AugAssign (.Name x _) op' v _ => sto c i x && decide (op = op') && chkE c e v && [Operator.Add, .Sub, .Mult].contains op
  | .setI x i e, .Assign [.Subscript (.Name y _) z _] v _ => vis c x y && chkE c i z && chkE c e v
  | .app x e, .Expr (.Call (.Attribute (.Name y _) m ap) [v] [] cp) _ => vis c x y && (m == ("append" : Str)) && (ap.endLine == cp.line) && chkE c e v
  | .ife t a b, .If x y z _ => chkE c t x && chkSs c a y && chkSs c b z
  | .whl t b, .While x y [] _ => chkE c t x && chkSs c b y
  | .for_ t it b, .For tg x y [] _ => c.calm && chkT c t tg && chkI c it tg x && chkSs c b y
  | .ret e, .Return (some v) _ => chkE c e v
  | .retN, .Return none _ => true
  | .drop e, .Expr v _ => !isLcE v && chkE c e v
  | .rais x m, .Raise (some (.Call (.Name y _) [.Constant (.str m') _ _] [] _)) none _ => c.calm && (x == y && isGl c y) && c.xs x
  | .try_ b x h, .Try y [.ExceptHandler (some (.Name z _)) none (s :: ss) _] [] [] _ => c.calm && (x == z && isGl c z) && c.xs x && chkSs c b y && chkSs { c with calm := false } h (s :: ss)
  | .tryR b x i h, .Try y [.ExceptHandler (some (.Name z _)) (some n) [.Return (some v) _] _] [] [] _ => c.calm && (x == z && isGl c z) && c.xs x && chkSs c b y && decide (c.N[i]? = some n) && locN c n && chkH c i n h v
  | .pass, .Pass _ => true
  | .brk, .Break _ => true
  | .cont, .Continue _ => true
  | _, _ => false
def chkSs (c : Cc) : MSs → List Stmt → Bool
  | .nil, [] => true
  | .cons s r, x :: xs => chkS c s x && chkSs c r xs
  | _, _ => false
end
section
variable {K : PySem.W.Frag} {mg : Str → Option Value} {w w1 w2 w' : Wd} {H H1 H2 H' : Hp} {W : WX} {σ : VStk} {r : Env}
def OutS (K : PySem.W.Frag) (mg : Str → Option Value) (W : WX) (w : Wd) (H : Hp) (x : SR) (D : Ends) : Prop := match x with
  | .stuck => False
  | .err e r' S' => ∀ w' σ' H' c dx, w'.S = S' → Step K w H w' H' → EnvOk K mg w' H' r' σ' → RepX K mg w' H' e c dx → W c dx σ' H'
  | .next r' S' => ∀ w' σ' H', w'.S = S' → Step K w H w' H' → EnvOk K mg w' H' r' σ' → D.nx σ' H'
  | .ret v fr S' => ∀ w' u H', w'.S = S' → Step K w H w' H' → RepF K mg fr H w' H' v u → D.rt u H'
  | .brk r' S' => ∀ w' σ' H', w'.S = S' → Step K w H w' H' → EnvOk K mg w' H' r' σ' → D.bk σ' H'
  | .cont r' S' => ∀ w' σ' H', w'.S = S' → Step K w H w' H' → EnvOk K mg w' H' r' σ' → D.ct σ' H'
def rdS (K : PySem.W.Frag) (mg : Str → Option Value) (f : Env → Store → SR) (W : WX) : TS := fun D σ H => ∃ w r, Good K w H ∧ EnvOk K mg w H r σ ∧ OutS K mg W w H (f r w.S) D
theorem OutS.step {x : SR} {D : Ends} (g : Good K w H) (s : Step K w H w1 H1) (h : OutS K mg W w H x D) : OutS K mg W w1 H1 x D := by
  cases x with
  | stuck => exact h
  | err e r' S' => exact fun w' σ' H' c dx e1 s1 en rx => h w' σ' H' c dx e1 (s.trans g s1) en rx
  | next r' S' => exact fun w' σ' H' e1 s1 en => h w' σ' H' e1 (s.trans g s1) en
  | ret v fr S' => exact fun w' u H' e1 s1 rf => h w' u H' e1 (s.trans g s1) (repF_back s.toMv s.gd rf)
  | brk r' S' => exact fun w' σ' H' e1 s1 en => h w' σ' H' e1 (s.trans g s1) en
  | cont r' S' => exact fun w' σ' H' e1 s1 en => h w' σ' H' e1 (s.trans g s1) en
theorem OutS.of {A : Type} {x : Res A} {k : A → Store → SR} {D : Ends} (g : Good K w H) (en : EnvOk K mg w H r σ) (h : OutS K mg W w H (SR.of r x k) D) : OutR K mg (WXs W σ) w H x fun a w1 H1 => OutS K mg W w1 H1 (k a w1.S) D := by
  cases x with
  | stuck => exact h
  | err e S => exact fun w' H' c dx e1 s rx => h w' σ H' c dx e1 s (en.step s g) rx
  | ok a S =>
    intro w1 H1 e s
    subst e
    exact OutS.step g s h
theorem PS.weak {X : Cx} {st : Stmt} {t t' : TS} (h : PS X st t) (k : ∀ D σ H, t' D σ H → t D σ H) : PS X st t' := ⟨fun pins s σ H D I q => h.run pins s σ H D I (k _ _ _ q)⟩
theorem PSs.weak {X : Cx} {st : List Stmt} {t t' : TS} (h : PSs X st t) (k : ∀ D σ H, t' D σ H → t D σ H) : PSs X st t' := ⟨fun pins s σ H D I q => h.run pins s σ H D I (k _ _ _ q)⟩
theorem rdE_s {fr : Bool} {f : Env → Store → Res Val} {k : Val → Store → SR} {D : Ends} {Q : VK} (g : Good K w H) (en : EnvOk K mg w H r σ) (o : OutS K mg W w H (SR.of r (f r w.S) k) D)
    (hq : ∀ x w1 H1 v, Step K w H w1 H1 → EnvOk K mg w1 H1 r σ → RepF K mg fr H w1 H1 x v → OutS K mg W w1 H1 (k x w1.S) D → Q v H1) : rdE K mg fr f W σ H Q :=
  ⟨w, r, g, en, (OutS.of g en o).mono fun x w1 H1 s p v rep => hq x w1 H1 v s (en.step s g) rep p⟩
theorem rdT_s {f : Env → Store → Res Val} {k : Val → Store → SR} {D : Ends} {Q : Bool → Hp → Prop} (g : Good K w H) (en : EnvOk K mg w H r σ) (o : OutS K mg W w H (SR.of r (f r w.S) k) D) (hn : ∀ x S, tru S x = none → k x S = .stuck)
    (hq : ∀ x b w1 H1, Step K w H w1 H1 → EnvOk K mg w1 H1 r σ → tru w1.S x = some b → OutS K mg W w1 H1 (k x w1.S) D → Q b H1) : rdT K mg f W σ H Q :=
  ⟨w, r, g, en, (OutS.of g en o).mono fun x w1 H1 s p => by
    cases hb : tru w1.S x with
    | none =>
      rw [hn x w1.S hb] at p
      exact p
    | some b => exact hq x b w1 H1 s (en.step s g) hb p⟩
/-- the class that a name says -/
def ClsN (mg : Str → Option Value) (y : Str) (cv : Value) : Prop := (∃ F, mg y = some (.ref F) ∧ cv = .ref F) ∨ (mg y = none ∧ y = ("ValueError" : Str) ∧ cv = .type "ValueError")
/-- what a body wants beside -/
structure SitS (T : Tab) (k : Nat) (X : Cx) (W : WX) (c : Cc) : Prop extends Sit T k X W c where
  po : PassesOwn (model X.prog X.w) X.A X.env X.xe
  stk : X.stack = X.env :: X.outer
  frm : X.env.frame = some X.env.locals
  knd : X.env.scope.kind = .function
  exc : ∀ x, c.xs x = true → ∃ C, X.mg x = some (.ref C) ∧ PySem.W.excIn X.K C [.type "ValueError", .type "Exception", .type "BaseException", .type "object"] "ValueError.__new__" = true ∧ PySem.W.keepIn X.K (.ref C) = true ∧
    PySem.W.subIn X.K (.ref C) (.type "BaseException") = some true ∧ PySem.W.typeIn X.K (.ref C) = some (.type "type")
  xm : ∀ x y b, T.xm x y = some b → ∀ C1 C2, X.mg x = some (.ref C1) → X.mg y = some (.ref C2) → PySem.W.exmOne X.K (.ref C1) (.ref C2) = some b
  xi : ∀ x y b, T.xi x y = some b → ∀ D, X.mg x = some (.ref D) → ExcC X.K D ∧ ∃ cv, ClsN X.mg y cv ∧ PySem.W.kitOne X.K (.ref D) cv = some b
/-! ### small statements -/
theorem sto_of {T : Tab} {k : Nat} {X : Cx} {c : Cc} (S : Sit T k X W c) {i : Nat} {x : Str} (h : sto c i x = true) : X.N[i]? = some x ∧ Loc X.env.scope x ∧ (X.fn x = true ∨ X.env.scope.names.lookup x = some .local) := by
  unfold sto at h
  simp only [Bool.and_eq_true, decide_eq_true_eq] at h
  obtain ⟨h1, h2⟩ := h
  rw [S.N, S.sc, S.fn]
  refine ⟨h1, ?_⟩
  cases hl : c.sc.names.lookup x with
  | none => rw [hl] at h2; cases h2
  | some kd =>
    rw [hl] at h2
    cases kd <;> simp only [Bool.false_eq_true] at h2
    · exact ⟨.inl hl, .inr rfl⟩
    · exact ⟨.inr hl, .inl h2⟩
theorem sw_no {v : Expr} (h : isLcE v = false) (t : Option Expr) (l : Nat) (env : PySem.Env) : swapsWith v t l env = pure false := by
  cases v <;> first | rfl | (simp [isLcE] at h)
theorem sw_noN {v : Expr} {x : Str} {p : Pos} {l : Nat} {env : PySem.Env} (h : env.scope.names.lookup x ≠ some .local) : ∀ {a b s q}, v = .ListComp a b s q → swapsWith v (some (.Name x p)) l env = pure false := by
  intro a b s q e
  subst e
  have hk : (env.kindOf x == some NameKind.local) = false := by
    show (env.scope.names.lookup x == some NameKind.local) = false
    simpa using h
  unfold swapsWith
  simp only [hk, Bool.and_false, Bool.false_and]
/-- a store of an expression's value to a name -/
theorem ps_setE {T : Tab} {k : Nat} {X : Cx} {c : Cc} (S : SitS T k X W c) {i : Nat} {x : Str} {m : ME} {v : Expr} {p1 p2 : Pos} (h1 : sto c i x = true) (h2 : chkE c m v = true) (h3 : (swT c x p1 v || !isLcE v || !locN c x) = true) :
    PS X (.Assign [.Name x p1] v p2) (tAsg (rdE X.K X.mg (isFr T.fr m) (evE T.gl (call T k) m) W) (gName i)) := by
  obtain ⟨q1, q2, q3⟩ := sto_of S.toSit h1
  have pe := (sndE m S.toSit h2).pe
  by_cases hl : isLcE v = false
  · exact ps_set S.nd q1 q2 pe (sw_no hl _ _ _) q3
  · -- a comprehension
    cases v <;> simp only [isLcE, not_true_eq_false, Bool.true_eq_false, not_false_eq_true] at hl
    case ListComp elt gens scope p =>
      by_cases hx : locN c x = true
      · have h3' : swT c x p1 (.ListComp elt gens scope p) = true := by
          simpa [isLcE, hx] using h3
        simp only [swT, Bool.and_eq_true, Bool.not_eq_true'] at h3'
        obtain ⟨⟨h4, h5⟩, h6⟩ := h3'
        have hy : X.env.scope.names.lookup x = some .local := by
          rw [S.sc]
          exact of_decide_eq_true hx
        unfold chkE at h2
        split at h2 <;> first | contradiction | skip
        rename_i own t it q e x2 tg y ifs sc2 ps2 eq2
        cases eq2
        simp only [Bool.and_eq_true] at h2
        obtain ⟨⟨⟨⟨⟨⟨a1, a2⟩, a3⟩, a4⟩, a5⟩, a6⟩, a7⟩ := h2
        have sc := (S.toSit.blk · · scope · · ·)
        have ok : BlkOk X.N X.env.scope scope (ownS c own) := by rw [S.N, S.sc]; exact blkOk_by a2
        have hg : ∀ (s : Shared) (H : Hp) (Ca : Addr) (cl : List (Str × Addr)) (fp : List Addr), PG (X.blk s H scope (compEnvC scope cl Ca X.env) fp) tg (gT X.K t) := fun s H Ca cl fp => sndT ((S.toSit.blk s H scope cl Ca fp).t a1) a3
        have ht : ∀ (s : Shared) (H : Hp) (Ca : Addr) (cl : List (Str × Addr)) (fp : List Addr), PTs (X.blk s H scope (compEnvC scope cl Ca X.env) fp) ifs (tQ ((evC T.gl (call T k) q).map fun f => rdT X.K X.mg f WF)) := fun s H Ca cl fp => sndQ _ (S.toSit.blk s H scope cl Ca fp) a6
        have he : ∀ (s : Shared) (H : Hp) (Ca : Addr) (cl : List (Str × Addr)) (fp : List Addr), PE (X.blk s H scope (compEnvC scope cl Ca X.env) fp) elt (rdE X.K X.mg (isFr T.fr e) (evE T.gl (call T k) e) WF) := fun s H Ca cl fp => (sndE _ (S.toSit.blk s H scope cl Ca fp) a7).pe
        have hi := sndI _ S.toSit a5
        obtain ⟨_, key⟩ := snd_lc (pos := p) (W := W) (S.cm a1) S.nd hi.1 ok (own_map c own) (fun i hi => List.contains_iff_mem.mp (List.all_eq_true.mp a4 i hi)) hg ht he hi.2
        exact PS.weak (ps_setLc (S.cm a1) S.nd q1 hy (sw_true S.knd hy h5 h6) hi.1 ok hg ht he hi.2) fun D σ H q => key q
      · refine ps_set S.nd q1 q2 pe (sw_noN (fun e => hx ?_) rfl) q3
        unfold locN
        rw [← S.sc]
        exact decide_eq_true e
    case SetComp => cases m <;> simp [chkE] at h2
    case DictComp => cases m <;> simp [chkE] at h2
variable {T : Tab} {k : Nat} {X : Cx} {c : Cc}
theorem snd_asg (S : SitS T k X W c) {i : Nat} {x : Str} {m : ME} {v : Expr} {p1 p2 : Pos} (h1 : sto c i x = true) (h2 : chkE c m v = true) (h3 : (swT c x p1 v || !isLcE v || !locN c x) = true) :
    PS X (.Assign [.Name x p1] v p2) (rdS X.K X.mg (evS T.gl (call T k) T.fr T.xm T.xi (.asg i m)) W) := by
  refine PS.weak (ps_setE S h1 h2 h3) fun D σ H q => ?_
  obtain ⟨w, r, g, en, o⟩ := q
  unfold evS at o
  refine rdE_s g en o fun x1 w1 H1 v1 s1 en1 rx o1 => ?_
  exact o1 w1 (σ.set i (some v1)) H1 rfl (Step.refl s1.gd) (en1.set i rx.1)
/-- a new place of the store -/
def Wd.push (w : Wd) (p : Addr) (c : Cell) : Wd := ⟨fun n => if n = w.S.length then p else w.mu n, w.S ++ [c], w.rsv⟩
theorem Wd.push_old {p : Addr} {cl : Cell} {n : Nat} (h : n < w.S.length) : (w.push p cl).mu n = w.mu n := by
  unfold Wd.push
  simp only
  rw [if_neg (by omega)]
theorem Wd.push_new {p : Addr} {cl : Cell} : (w.push p cl).mu w.S.length = p := by
  unfold Wd.push
  simp
mutual
theorem repD_push {p : Addr} {cl : Cell} {o : HO} (hp : H p = none) : ∀ {d : PyData} {v : V}, RepD K w H d v → RepD K (w.push p cl) (upd H p o) d v
  | .none, _, h => h
  | .bool _, _, h => h
  | .int _, _, h => h
  | .str _, _, h => h
  | .list xs, _, h => by
    unfold RepD at h ⊢
    obtain ⟨a, vs, e, h1, h2, h3⟩ := h
    have ne : a ≠ p := ne_of_none h1 hp
    refine ⟨a, vs, e, by rw [upd_ne ne]; exact h1, ⟨fun n hn e => ?_, h2.r⟩, repDs_push hp h3⟩
    by_cases hl : n < w.S.length
    · rw [Wd.push_old hl] at e
      exact h2.m n hl e
    · have : n = w.S.length := by
        simp only [Wd.push, List.length_append, List.length_cons, List.length_nil] at hn
        omega
      subst this
      rw [Wd.push_new] at e
      exact ne e
  | .tuple xs, _, h => by
    unfold RepD at h ⊢
    obtain ⟨a, vs, e, h1, h3⟩ := h
    exact ⟨a, vs, e, (Ext.new hp).sqT h1, repDs_push hp h3⟩
  | .dict _, _, h => by
    unfold RepD at h
    exact h.elim
theorem repDs_push {p : Addr} {cl : Cell} {o : HO} (hp : H p = none) : ∀ {ds : List PyData} {vs : List V}, RepDs K w H ds vs → RepDs K (w.push p cl) (upd H p o) ds vs
  | [], _, h => h
  | d :: ds, _, h => by
    unfold RepDs at h ⊢
    obtain ⟨v, r, e, h1, h2⟩ := h
    exact ⟨v, r, e, repD_push hp h1, repDs_push hp h2⟩
end
theorem good_push {p : Addr} {xs : List PyData} {vs : List V} (g : Good K w H) (hp : H p = none) (hx : RepDs K w H xs vs) : Good K (w.push p (.lst xs)) (upd H p (.lst vs)) := by
  have op := g.outN hp
  refine ⟨fun n c e => ?_, fun i j hi hj e => ?_, fun a ha => ?_⟩
  · by_cases hl : n < w.S.length
    · have e' : w.S[n]? = some c := by
        have e2 : (w.S ++ [Cell.lst xs])[n]? = some c := e
        rwa [List.getElem?_append_left hl] at e2
      have q := g.cell n c e'
      rw [Wd.push_old hl]
      cases c with
      | lst ys =>
        obtain ⟨us, q1, q2⟩ := q
        exact ⟨us, Ext.new hp _ _ q1, repDs_push hp q2⟩
      | dct _ => exact q
    · have e2 : (w.S ++ [Cell.lst xs])[n]? = some c := e
      have hn : n = w.S.length := by
        have := (List.getElem?_eq_some_iff.mp e2).1
        simp only [List.length_append, List.length_cons, List.length_nil] at this
        omega
      subst hn
      rw [List.getElem?_append_right (Nat.le_refl _), Nat.sub_self] at e2
      simp only [List.getElem?_cons_zero, Option.some.injEq] at e2
      subst e2
      rw [Wd.push_new]
      exact ⟨vs, upd_same, repDs_push hp hx⟩
  · simp only [Wd.push, List.length_append, List.length_cons, List.length_nil] at hi hj
    have key : ∀ n, n < w.S.length → w.mu n ≠ p := fun n hn z => op.m n hn z.symm
    by_cases h1 : i < w.S.length <;> by_cases h2 : j < w.S.length
    · rw [Wd.push_old h1, Wd.push_old h2] at e
      exact g.inj i j h1 h2 e
    · have : j = w.S.length := by omega
      subst this
      rw [Wd.push_old h1, Wd.push_new] at e
      exact absurd e (key i h1)
    · have : i = w.S.length := by omega
      subst this
      rw [Wd.push_old h2, Wd.push_new] at e
      exact absurd e.symm (key j h2)
    · omega
  · obtain ⟨h1, us, h2⟩ := g.rs a ha
    have ne : a ≠ p := ne_of_none h2 hp
    refine ⟨fun n hn e => ?_, us, by rw [upd_ne ne]; exact h2⟩
    by_cases hl : n < w.S.length
    · rw [Wd.push_old hl] at e
      exact h1 n hl e
    · have : n = w.S.length := by
        simp only [Wd.push, List.length_append, List.length_cons, List.length_nil] at hn
        omega
      subst this
      rw [Wd.push_new] at e
      exact ne e
/-- a new list gets a place -/
theorem push_step {p : Addr} {xs : List PyData} {vs : List V} (h0 : H p = none) (s : Step K w H w1 H1) (hp : H1 p = some (.lst vs)) (g1 : Good K w1 (rm H1 p)) (hx : RepDs K w1 (rm H1 p) xs vs) :
    Step K w H (w1.push p (.lst xs)) H1 := by
  have gp := good_push g1 rm_same hx
  rw [upd_rm hp] at gp
  refine ⟨⟨?_, fun n hn => ?_, s.fr, fun n h1 h2 => ?_⟩, s.rv, gp⟩
  · have := s.le
    simp only [Wd.push, List.length_append, List.length_cons, List.length_nil]
    omega
  · rw [Wd.push_old (Nat.lt_of_lt_of_le hn s.le)]
    exact s.mp n hn
  · by_cases hl : n < w1.S.length
    · rw [Wd.push_old hl]
      exact s.nw n h1 hl
    · have : n = w1.S.length := by
        simp only [Wd.push, List.length_append, List.length_cons, List.length_nil] at h2
        omega
      subst this
      rw [Wd.push_new]
      exact h0
theorem snd_asgN (S : SitS T k X W c) {i : Nat} {x : Str} {m : ME} {v : Expr} {p1 p2 : Pos} (h1 : sto c i x = true) (h2 : chkE c m v = true) (h3 : (swT c x p1 v || !isLcE v || !locN c x) = true) :
    PS X (.Assign [.Name x p1] v p2) (rdS X.K X.mg (evS T.gl (call T k) T.fr T.xm T.xi (.asgN i m)) W) := by
  refine PS.weak (ps_setE S h1 h2 h3) fun D σ H q => ?_
  obtain ⟨w, r, g, en, o⟩ := q
  unfold evS at o
  split at o
  · rename_i hfr
    cases he : evE T.gl (call T k) m r w.S with
    | stuck => rw [he] at o; exact o.elim
    | err e1 S1 =>
      refine ⟨w, r, g, en, ?_⟩
      rw [he] at o ⊢
      exact fun w' H' c dx e s rx => o w' σ H' c dx e s (en.step s g) rx
    | ok x1 S1 =>
      refine ⟨w, r, g, en, ?_⟩
      rw [he] at o ⊢
      intro w1 H1 e1 s1 v1 rf
      subst e1
      simp only [SR.of_ok] at o
      split at o
      · rename_i xs
        rw [hfr] at rf
        obtain ⟨p, vs, f1, f2, f3, f4, f5⟩ := rf.2 rfl xs rfl
        subst f1
        have s2 := push_step f2 s1 f3 f4 f5
        refine o (w1.push p (.lst xs)) (σ.set i (some (.ref p))) H1 rfl s2 ((en.step s2 g).set i (x := .loc w1.S.length) ⟨?_, ?_⟩)
        · simp [Wd.push]
        · rw [Wd.push_new]
      · exact o.elim
  · exact o.elim
theorem filterMap_lt {A B : Type} {f : A → Option B} : ∀ {l : List A} {x : A}, x ∈ l → f x = none → (l.filterMap f).length < l.length
  | y :: l, x, h, e => by
    rcases List.mem_cons.mp h with q | q
    · subst q
      rw [List.filterMap_cons, e, List.length_cons]
      exact Nat.lt_succ_of_le (List.length_filterMap_le f l)
    · have ih := filterMap_lt q e
      rw [List.filterMap_cons, List.length_cons]
      cases f y with
      | none => exact Nat.lt_succ_of_lt ih
      | some b =>
        simp only [List.length_cons]
        omega
theorem swst_none {xs vs : List Expr} {kk k2 : Nat} {p1 p3 : Pos} {env : PySem.Env} (h : 3 < xs.length ∨ ∃ x ∈ xs, ∀ id pos, x = .Name id pos → env.kindOf id ≠ some .local) : swappedStores [.Tuple xs kk p1] (.Tuple vs k2 p3) env = pure none := by
  unfold swappedStores
  simp only []
  rcases h with h | ⟨x, hx, hn⟩
  · rw [if_pos]
    simp only [Bool.or_eq_true, Bool.not_eq_true', Bool.or_eq_false_iff, beq_eq_false_iff_ne, ne_eq]
    exact .inl (.inl ⟨by omega, by omega⟩)
  · split
    · rfl
    · split
      · rfl
      · rw [if_pos]
        simp only [Bool.or_eq_true]
        refine .inl ?_
        rw [bne_iff_ne]
        refine Nat.ne_of_lt (filterMap_lt hx ?_)
        cases x <;> first | rfl | skip
        rename_i id pos
        have := hn id pos rfl
        simp only [beq_iff_eq]
        rw [if_neg]
        simp only [Bool.and_eq_true, beq_iff_eq, not_and]
        exact fun e => absurd e this
theorem snd_asgT (S : SitS T k X W c) {t : Tgt} {m : ME} {xs : List Expr} {kk : Nat} {v : Expr} {p1 p2 : Pos} (hc : c.calm = true) (h1 : chkT c t (.Tuple xs kk p1) = true) (h2 : chkE c m v = true)
    (h3 : (!isTupE v || decide (3 < xs.length) || xs.any fun x => match x with | .Name id _ => !locN c id | _ => true) = true) :
    PS X (.Assign [.Tuple xs kk p1] v p2) (rdS X.K X.mg (evS T.gl (call T k) T.fr T.xm T.xi (.asgT t m)) W) := by
  have hs : swapsWithSole [.Tuple xs kk p1] v p2.line X.env = pure false := by
    cases v <;> rfl
  have hw : swappedStores [.Tuple xs kk p1] v X.env = pure none := by
    by_cases ht : isTupE v = true
    · cases v <;> simp only [isTupE, Bool.false_eq_true] at ht
      rename_i vs k2 p3
      refine swst_none ?_
      simp only [isTupE, Bool.not_true, Bool.false_or, Bool.or_eq_true, decide_eq_true_eq, List.any_eq_true] at h3
      rcases h3 with h3 | ⟨x, hx, h3⟩
      · exact .inl h3
      · refine .inr ⟨x, hx, fun id pos e => ?_⟩
        subst e
        simp only [Bool.not_eq_true', locN, decide_eq_false_iff_not] at h3
        rw [← S.sc] at h3
        exact h3
    · cases v <;> first | rfl | (simp [isTupE] at ht)
  refine PS.weak (ps_asg (sndE m S.toSit h2).pe (sndT (S.toSit.t hc) h1) hs hw rfl) fun D σ H q => ?_
  obtain ⟨w, r, g, en, o⟩ := q
  unfold evS at o
  refine rdE_s g en o fun x1 w1 H1 v1 s1 en1 rx o1 => ?_
  split at o1
  · rename_i d
    split at o1
    · rename_i r1 hb
      exact gT_ok (K := X.K) (mg := X.mg) rx.1 en1 hb fun σ1 en2 _ => o1 w1 σ1 H1 rfl (Step.refl s1.gd) en2
    · exact o1.elim
  · exact o1.elim
end
end Rf
/-! Statements, further. -/
namespace Rf
open PySem PySem.Spec PyProof.Rows L2
section
variable {K : PySem.W.Frag} {mg : Str → Option Value} {w w1 w2 w' : Wd} {H H1 H2 H' : Hp} {W : WX} {σ : VStk} {r : Env}
variable {T : Tab} {k : Nat} {X : Cx} {c : Cc}
theorem vis_of (S : Sit T k X W c) {i : Nat} {x : Str} (h : vis c i x = true) {p : Pos} : PE X (.Name x p) (tVar i) := by
  unfold vis at h
  simp only [Bool.and_eq_true, decide_eq_true_eq, Bool.not_eq_true'] at h
  obtain ⟨⟨⟨h1, h2⟩, h3⟩, h4⟩ := h
  have hv : Vis X.env.scope x := by
    rw [S.sc]
    unfold Vis
    split at h2 <;> first | exact .inl (by assumption) | exact .inr (.inl (by assumption)) | exact .inr (.inr (by assumption)) | cases h2
  exact pe_var (by rw [S.N]; exact h1) hv h3 h4
theorem snd_asg2 (S : SitS T k X W c) {i j : Nat} {x y : Str} {a b : ME} {u v : Expr} {p1 p2 p3 p4 p5 : Pos} {k1 k2 : Nat} (hc : c.calm = true) (hi : c.N[i]? = some x) (hj : c.N[j]? = some y) (hij : i ≠ j) (hx : locN c x = true) (hy : locN c y = true) (hl : (p1.line == p3.line) = true) (hxy : (x == y) = false)
    (ha : chkE c a u = true) (hb : chkE c b v = true) (h1 : ([u, v].all (foldedForSure 8)) = false) (h2 : ([u, v].all (constantsAlone 8)) = false) :
    PS X (.Assign [.Tuple [.Name x p1, .Name y p3] k1 p4] (.Tuple [u, v] k2 p5) p2) (rdS X.K X.mg (evS T.gl (call T k) T.fr T.xm T.xi (.asg2 i j a b)) W) := by
  have lx : X.env.scope.names.lookup x = some .local := by rw [S.sc]; exact of_decide_eq_true hx
  have ly : X.env.scope.names.lookup y = some .local := by rw [S.sc]; exact of_decide_eq_true hy
  have kx : X.env.kindOf x = some .local := lx
  have ky : X.env.kindOf y = some .local := ly
  have hbk : X.env.blockKind = .function := by
    unfold Env.blockKind
    rw [S.knd]
    rfl
  have hw : swappedStores [.Tuple [.Name x p1, .Name y p3] k1 p4] (.Tuple [u, v] k2 p5) X.env = pure (some [x, y]) := by
    unfold swappedStores
    simp only []
    have pu := chk_plain ha
    have pv := chk_plain hb
    rw [if_neg (by rw [hbk]; simp)]
    rw [if_neg (by
      simp only [List.any_cons, List.any_nil, Bool.or_false, Bool.or_eq_true, not_or]
      constructor
      · cases u <;> first | (simp [plainX] at pu; done) | simp
      · cases v <;> first | (simp [plainX] at pv; done) | simp)]
    have hl' : p3.line = p1.line := (eq_of_beq hl).symm
    have hne : (y == x) = false := by
      rw [beq_eq_false_iff_ne] at hxy ⊢
      exact fun q => hxy q.symm
    simp only [List.filterMap_cons, List.filterMap_nil, List.head?_cons, Option.map_some, Option.getD_some, Expr.pos, kx, ky, hl', beq_self_eq_true, Bool.and_self, if_true]
    rw [if_neg (by simp [List.eraseDups_cons, hne]), if_neg (by rw [h1]; decide), if_neg (by rw [h2]; decide)]
  have pa : PA X [u, v] (rdA X.K X.mg (evEs T.gl (call T k) (.cons a (.cons b .nil))) W) := sndEs _ S.toSit (by simp [chkEs, ha, hb])
  refine PS.weak (ps_par (S.cm hc) S.nd (by rw [S.N]; exact hi) (by rw [S.N]; exact hj) hij lx ly pa hw rfl) fun D σ H q => ?_
  obtain ⟨w, r, g, en, o⟩ := q
  unfold evS at o
  cases he : evE T.gl (call T k) a r w.S with
  | stuck => rw [he] at o; exact o.elim
  | err e1 S1 =>
    refine ⟨w, r, g, en, ?_⟩
    unfold evEs
    rw [he] at o ⊢
    exact fun w' H' c dx e s rx => o w' σ H' c dx e s (en.step s g) rx
  | ok x1 S1 =>
    rw [he] at o
    simp only [SR.of_ok] at o
    cases he2 : evE T.gl (call T k) b r S1 with
    | stuck => rw [he2] at o; exact o.elim
    | err e1 S2 =>
      refine ⟨w, r, g, en, ?_⟩
      simp only [evEs, he, Res.bind_ok, he2]
      rw [he2] at o
      exact fun w' H' c dx e s rx => o w' σ H' c dx e s (en.step s g) rx
    | ok y1 S2 =>
      rw [he2] at o
      refine ⟨w, r, g, en, ?_⟩
      simp only [evEs, he, Res.bind_ok, he2]
      intro w1 H1 e1 s1 vs rvs
      obtain ⟨v1, r1, q1, q2, q3⟩ := rvs
      obtain ⟨v2, r2, q4, q5, q6⟩ := q3
      simp only [RepVs] at q6
      subst q1 q4 q6
      exact ⟨v1, v2, rfl, o w1 _ H1 e1 s1 (((en.step s1 g).set i q2).set j q5)⟩
theorem snd_asg3 (S : SitS T k X W c) {i j l : Nat} {x y z : Str} {a b e : ME} {u v w3 : Expr} {p1 p2 p3 p4 p5 p6 : Pos} {k1 k2 : Nat} (hc : c.calm = true) (hi : c.N[i]? = some x) (hj : c.N[j]? = some y) (hlz : c.N[l]? = some z) (hij : i ≠ j) (hil : i ≠ l) (hjl : j ≠ l)
    (hx : locN c x = true) (hy : locN c y = true) (hz : locN c z = true) (hl : (p1.line == p3.line) = true) (hl2 : (p1.line == p6.line) = true) (hxy : (x == y) = false) (hxz : (x == z) = false) (hyz : (y == z) = false)
    (ha : chkE c a u = true) (hb : chkE c b v = true) (he3 : chkE c e w3 = true) (h1 : ([u, v, w3].all (foldedForSure 8)) = false) (h2 : ([u, v, w3].all (constantsAlone 8)) = false) :
    PS X (.Assign [.Tuple [.Name x p1, .Name y p3, .Name z p6] k1 p4] (.Tuple [u, v, w3] k2 p5) p2) (rdS X.K X.mg (evS T.gl (call T k) T.fr T.xm T.xi (.asg3 i j l a b e)) W) := by
  have lx : X.env.scope.names.lookup x = some .local := by rw [S.sc]; exact of_decide_eq_true hx
  have ly : X.env.scope.names.lookup y = some .local := by rw [S.sc]; exact of_decide_eq_true hy
  have lz : X.env.scope.names.lookup z = some .local := by rw [S.sc]; exact of_decide_eq_true hz
  have kx : X.env.kindOf x = some .local := lx
  have ky : X.env.kindOf y = some .local := ly
  have kz : X.env.kindOf z = some .local := lz
  have hbk : X.env.blockKind = .function := by
    unfold Env.blockKind
    rw [S.knd]
    rfl
  have hw : swappedStores [.Tuple [.Name x p1, .Name y p3, .Name z p6] k1 p4] (.Tuple [u, v, w3] k2 p5) X.env = pure (some [x, y, z]) := by
    unfold swappedStores
    simp only []
    have pu := chk_plain ha
    have pv := chk_plain hb
    have pw := chk_plain he3
    rw [if_neg (by rw [hbk]; simp)]
    rw [if_neg (by
      simp only [List.any_cons, List.any_nil, Bool.or_false, Bool.or_eq_true, not_or]
      refine ⟨?_, ?_, ?_⟩
      · cases u <;> first | (simp [plainX] at pu; done) | simp
      · cases v <;> first | (simp [plainX] at pv; done) | simp
      · cases w3 <;> first | (simp [plainX] at pw; done) | simp)]
    have hl' : p3.line = p1.line := (eq_of_beq hl).symm
    have hl'' : p6.line = p1.line := (eq_of_beq hl2).symm
    have hne : (y == x) = false := by
      rw [beq_eq_false_iff_ne] at hxy ⊢
      exact fun q => hxy q.symm
    have hne2 : (z == x) = false := by
      rw [beq_eq_false_iff_ne] at hxz ⊢
      exact fun q => hxz q.symm
    have hne3 : (z == y) = false := by
      rw [beq_eq_false_iff_ne] at hyz ⊢
      exact fun q => hyz q.symm
    simp only [List.filterMap_cons, List.filterMap_nil, List.head?_cons, Option.map_some, Option.getD_some, Expr.pos, kx, ky, kz, hl', hl'', beq_self_eq_true, Bool.and_self, if_true]
    rw [if_neg (by simp [List.eraseDups_cons, hne, hne2, hne3]), if_neg (by rw [h1]; decide), if_neg (by rw [h2]; decide)]
  have pa : PA X [u, v, w3] (rdA X.K X.mg (evEs T.gl (call T k) (.cons a (.cons b (.cons e .nil)))) W) := sndEs _ S.toSit (by simp [chkEs, ha, hb, he3])
  refine PS.weak (ps_par3 (S.cm hc) S.nd (by rw [S.N]; exact hi) (by rw [S.N]; exact hj) (by rw [S.N]; exact hlz) hij hil hjl lx ly lz pa hw rfl) fun D σ H q => ?_
  obtain ⟨w, r, g, en, o⟩ := q
  unfold evS at o
  cases he : evE T.gl (call T k) a r w.S with
  | stuck => rw [he] at o; exact o.elim
  | err e1 S1 =>
    refine ⟨w, r, g, en, ?_⟩
    unfold evEs
    rw [he] at o ⊢
    exact fun w' H' c dx e s rx => o w' σ H' c dx e s (en.step s g) rx
  | ok x1 S1 =>
    rw [he] at o
    simp only [SR.of_ok] at o
    cases he2 : evE T.gl (call T k) b r S1 with
    | stuck => rw [he2] at o; exact o.elim
    | err e1 S2 =>
      refine ⟨w, r, g, en, ?_⟩
      simp only [evEs, he, Res.bind_ok, he2]
      rw [he2] at o
      exact fun w' H' c dx e s rx => o w' σ H' c dx e s (en.step s g) rx
    | ok y1 S2 =>
      rw [he2] at o
      simp only [SR.of_ok] at o
      cases he4 : evE T.gl (call T k) e r S2 with
      | stuck => rw [he4] at o; exact o.elim
      | err e1 S3 =>
        refine ⟨w, r, g, en, ?_⟩
        simp only [evEs, he, Res.bind_ok, he2, he4]
        rw [he4] at o
        exact fun w' H' c dx e s rx => o w' σ H' c dx e s (en.step s g) rx
      | ok z1 S3 =>
        rw [he4] at o
        refine ⟨w, r, g, en, ?_⟩
        simp only [evEs, he, Res.bind_ok, he2, he4]
        intro w1 H1 e1 s1 vs rvs
        obtain ⟨v1, r1, q1, q2, q3⟩ := rvs
        obtain ⟨v2, r2, q4, q5, q6⟩ := q3
        obtain ⟨v3, r3, q7, q8, q9⟩ := q6
        simp only [RepVs] at q9
        subst q1 q4 q7 q9
        exact ⟨v1, v2, v3, rfl, o w1 _ H1 e1 s1 ((((en.step s1 g).set i q2).set j q5).set l q8)⟩
theorem iop_mulW : OpR X (inplaceOp .Mult) (rI CMulW fun i j => .int (i * j)) := opI fun _ _ _ _ _ _ _ hc q => imul_int q hc.ok
theorem aug_ok {op : Operator} (h : [Operator.Add, .Sub, .Mult].contains op = true) : ∃ ti : TIp, PIp X op ti ∧ ∀ (a b z : Int) (H : Hp) (Q : VK), augI op a b = some z → Q (.int z) H → ti (.int a) (.int b) H Q := by
  have h' : op = .Add ∨ op = .Sub ∨ op = .Mult := by simpa using h
  rcases h' with e | e | e <;> subst e
  · exact ⟨_, ip_add, fun a b z H Q e q => ⟨a, b, rfl, rfl, by cases e; exact q⟩⟩
  · exact ⟨_, ip_sub, fun a b z H Q e q => ⟨a, b, rfl, rfl, by cases e; exact q⟩⟩
  · refine ⟨_, iop_mulW, fun a b z H Q e q => ?_⟩
    simp only [augI, Option.ite_none_right_eq_some, Option.some.injEq] at e
    obtain ⟨h1, h2⟩ := e
    subst h2
    exact ⟨a, b, rfl, rfl, h1, q⟩
theorem snd_aug (S : SitS T k X W c) {i : Nat} {x : Str} {op : Operator} {m : ME} {v : Expr} {p1 p2 : Pos} (h1 : sto c i x = true) (h2 : chkE c m v = true) (hop : [Operator.Add, .Sub, .Mult].contains op = true) :
    PS X (.AugAssign (.Name x p1) op v p2) (rdS X.K X.mg (evS T.gl (call T k) T.fr T.xm T.xi (.aug i op m)) W) := by
  obtain ⟨q1, q2, q3⟩ := sto_of S.toSit h1
  have pe := (sndE m S.toSit h2).pe
  obtain ⟨ti, hti, hk⟩ := aug_ok (X := X) hop
  refine PS.weak (ps_aug S.nd q1 q2 pe hti q3) fun D σ H q => ?_
  obtain ⟨w, r, g, en, o⟩ := q
  unfold evS at o
  cases hr : r[i]? with
  | none => simp only [hr] at o; exact o.elim
  | some y =>
    cases y with
    | none => simp only [hr] at o; exact o.elim
    | some y =>
      obtain ⟨u, hu, ru⟩ := en.at_ i y hr
      cases y with
      | loc _ => simp only [hr] at o; exact o.elim
      | scr _ => simp only [hr] at o; exact o.elim
      | fn _ => simp only [hr] at o; exact o.elim
      | d y =>
        cases y <;> simp only [hr] at o <;> first | exact o.elim | skip
        simp only [RepV, RepD] at ru
        subst ru
        refine ⟨_, hu, rdE_s g en o fun x1 w1 H1 v1 s1 en1 rx o1 => ?_⟩
        split at o1
        · rename_i j
          have rx := rx.1
          simp only [RepV, RepD] at rx
          subst rx
          split at o1
          · rename_i z hz
            exact hk _ _ z H1 _ hz (o1 w1 _ H1 rfl (Step.refl s1.gd) (en1.set i (x := .d (.int _)) (by simp [RepV, RepD])))
          · exact o1.elim
        · exact o1.elim
/-- a list at its place changes -/
def Wd.put (w : Wd) (n : Nat) (c : Cell) : Wd := ⟨w.mu, w.S.set n c, w.rsv⟩
mutual
theorem repD_put {n : Nat} {cl : Cell} {us us' : List V} (hn : n < w.S.length) (hH : H (w.mu n) = some (.lst us)) : ∀ {d : PyData} {v : V}, RepD K w H d v → RepD K (w.put n cl) (upd H (w.mu n) (.lst us')) d v
  | .none, _, h => h
  | .bool _, _, h => h
  | .int _, _, h => h
  | .str _, _, h => h
  | .list xs, _, h => by
    unfold RepD at h ⊢
    obtain ⟨a, vs, e, h1, h2, h3⟩ := h
    refine ⟨a, vs, e, by rw [upd_ne (h2.m n hn)]; exact h1, ⟨fun m hm => h2.m m (by simpa [Wd.put] using hm), h2.r⟩, repDs_put hn hH h3⟩
  | .tuple xs, _, h => by
    unfold RepD at h ⊢
    obtain ⟨a, vs, e, h1, h3⟩ := h
    exact ⟨a, vs, e, sqT_upd hH h1, repDs_put hn hH h3⟩
  | .dict _, _, h => by
    unfold RepD at h
    exact h.elim
theorem repDs_put {n : Nat} {cl : Cell} {us us' : List V} (hn : n < w.S.length) (hH : H (w.mu n) = some (.lst us)) : ∀ {ds : List PyData} {vs : List V}, RepDs K w H ds vs → RepDs K (w.put n cl) (upd H (w.mu n) (.lst us')) ds vs
  | [], _, h => h
  | d :: ds, _, h => by
    unfold RepDs at h ⊢
    obtain ⟨v, r, e, h1, h2⟩ := h
    exact ⟨v, r, e, repD_put hn hH h1, repDs_put hn hH h2⟩
end
theorem put_step {n : Nat} {us us' : List V} {ys : List PyData} (g : Good K w H) (hn : n < w.S.length) (hH : H (w.mu n) = some (.lst us)) (hy : RepDs K w H ys us') : Step K w H (w.put n (.lst ys)) (upd H (w.mu n) (.lst us')) := by
  refine ⟨⟨by simp [Wd.put], fun _ _ => rfl, fun a o h ho => by rw [upd_ne (ho n hn)]; exact h, fun m h1 h2 => absurd h2 (by simp [Wd.put]; omega)⟩, rfl, fun m cl e => ?_, fun i j hi hj e => g.inj i j (by simpa [Wd.put] using hi) (by simpa [Wd.put] using hj) e, fun a ha => ?_⟩
  · have e2 : (w.S.set n (.lst ys))[m]? = some cl := e
    by_cases hm : n = m
    · subst hm
      rw [List.getElem?_set_self hn] at e2
      cases e2
      exact ⟨us', upd_same, repDs_put hn hH hy⟩
    · rw [List.getElem?_set_ne hm] at e2
      have q := g.cell m cl e2
      have ne : w.mu m ≠ w.mu n := fun z => hm (g.inj n m hn (List.getElem?_eq_some_iff.mp e2).1 z.symm)
      cases cl with
      | lst xs =>
        obtain ⟨vs, q1, q2⟩ := q
        exact ⟨vs, by rw [show (w.put n (.lst ys)).mu m = w.mu m from rfl, upd_ne ne]; exact q1, repDs_put hn hH q2⟩
      | dct _ => exact q
  · obtain ⟨h1, vs, h2⟩ := g.rs a ha
    exact ⟨fun m hm => h1 m (by simpa [Wd.put] using hm), vs, by rw [upd_ne (h1 n hn)]; exact h2⟩
theorem loc_at (g : Good K w H) {n : Nat} {xs : List PyData} (h : w.S[n]? = some (.lst xs)) : ∃ vs, H (w.mu n) = some (.lst vs) ∧ RepDs K w H xs vs := g.cell n _ h
theorem snd_setI (S : SitS T k X W c) {x : Nat} {y : Str} {i e : ME} {z v : Expr} {p1 p2 p3 : Pos} (h1 : vis c x y = true) (h2 : chkE c i z = true) (h3 : chkE c e v = true) :
    PS X (.Assign [.Subscript (.Name y p1) z p2] v p3) (rdS X.K X.mg (evS T.gl (call T k) T.fr T.xm T.xi (.setI x i e)) W) := by
  have hs : swapsWithSole [.Subscript (.Name y p1) z p2] v p3.line X.env = pure false := by
    cases v <;> rfl
  have hw : swappedStores [.Subscript (.Name y p1) z p2] v X.env = pure none := by
    cases v <;> rfl
  have hpl := chk_plain h2
  have hsub : ∀ u, assign (.Subscript (.Name y p1) z p2) X.env u = (do
      let ov ← holding [u] (eval (.Name y p1) X.env)
      let iv ← holding [u, ov] (eval z X.env)
      standAt p2
      holding [u, ov, iv] (setItem ov iv u)
      release [u, ov, iv] []) := by
    intro u
    cases z <;> first | rfl | (simp [plainX] at hpl)
  refine PS.weak (ps_asg (sndE e S.toSit h3).pe (pg_sub (vis_of S.toSit h1) (sndE i S.toSit h2).pe set_list hsub) hs hw rfl) fun D σ H q => ?_
  obtain ⟨w, r, g, en, o⟩ := q
  unfold evS at o
  refine rdE_s g en o fun x1 w1 H1 v1 s1 en1 rx o1 => ?_
  cases hr : r[x]? with
  | none => simp only [hr] at o1; exact o1.elim
  | some yy =>
    cases yy with
    | none => simp only [hr] at o1; exact o1.elim
    | some yy =>
      obtain ⟨u, hu, ru⟩ := en1.at_ x yy hr
      cases yy with
      | d _ => simp only [hr] at o1; exact o1.elim
      | scr _ => simp only [hr] at o1; exact o1.elim
      | fn _ => simp only [hr] at o1; exact o1.elim
      | loc n =>
        simp only [hr] at o1
        refine ⟨u, hu, rdE_s s1.gd en1 o1 fun x2 w2 H2 v2 s2 en2 rx2 o2 => ?_⟩
        split at o2
        · rename_i y1 z1 xs hcell
          have rv1 := s2.repV s1.gd rx.1
          have ru2 := s2.repV s1.gd (x := .loc n) ru
          have rz := rx2.1
          simp only [RepV, RepD] at rz
          subst rz
          obtain ⟨us, hH, hxs⟩ := loc_at s2.gd hcell
          cases hj : ixN xs.length z1 with
          | none => simp only [hj] at o2; exact o2.elim
          | some j =>
            simp only [hj] at o2
            have st := put_step (us' := us.set j v1) (ys := xs.set j y1) s2.gd ru2.1 hH (RepDs.set rv1 j hxs)
            refine ⟨w2.mu n, us, z1, j, ru2.2, rfl, hH, by rw [← hxs.len]; exact hj, ?_⟩
            exact o2 (w2.put n (.lst (xs.set j y1))) σ _ rfl st (en2.step st s2.gd)
        · exact o2.elim
theorem snd_app (S : SitS T k X W c) {x : Nat} {y : Str} {e : ME} {v : Expr} {p1 p2 p3 p4 : Pos} (h1 : vis c x y = true) (hline : (p2.endLine == p3.line) = true) (h3 : chkE c e v = true) :
    PS X (.Expr (.Call (.Attribute (.Name y p1) "append" p2) [v] [] p3) p4) (rdS X.K X.mg (evS T.gl (call T k) T.fr T.xm T.xi (.app x e)) W) := by
  refine PS.weak (ps_expr (pe_bm PySem.F.plainAttrs_list PySem.F.slot_list_append PySem.F.type_list_append mt_append (vis_of S.toSit h1) (pa_cons (sndE e S.toSit h3).pe pa_nil (star_of (chk_plain h3) _ _)) rfl (by rw [star_of (chk_plain h3)]; rfl) hline (star_of (chk_plain h3) _ _) rfl) rfl) fun D σ H q => ?_
  obtain ⟨w, r, g, en, o⟩ := q
  unfold evS at o
  cases hr : r[x]? with
  | none => simp only [hr] at o; exact o.elim
  | some yy =>
    cases yy with
    | none => simp only [hr] at o; exact o.elim
    | some yy =>
      obtain ⟨u, hu, ru⟩ := en.at_ x yy hr
      cases yy with
      | d _ => simp only [hr] at o; exact o.elim
      | scr _ => simp only [hr] at o; exact o.elim
      | fn _ => simp only [hr] at o; exact o.elim
      | loc n =>
        simp only [hr] at o
        obtain ⟨us0, hH0⟩ := g.isL ru.1
        obtain ⟨hn0, hu0⟩ := ru
        subst hu0
        refine ⟨_, hu, .inl ⟨rfl, us0, .of hH0⟩, rdE_s g en o fun x1 w1 H1 v1 s1 en1 rx o1 => ?_⟩
        have ru1 : RepV X.K X.mg w1 H1 (.loc n) (.ref (w.mu n)) := s1.repV g (x := .loc n) ⟨hn0, rfl⟩
        split at o1
        · rename_i y1 xs hcell
          obtain ⟨us, hH, hxs⟩ := loc_at s1.gd hcell
          split at o1
          · rename_i hl
            have e1 : w1.mu n = w.mu n := s1.mp n hn0
            have st := put_step (us' := us ++ [v1]) (ys := xs ++ [y1]) s1.gd ru1.1 hH (hxs.append (by simp only [RepDs]; exact ⟨v1, [], rfl, rx.1, rfl⟩))
            rw [e1] at hH st
            refine ⟨w.mu n, us, v1, rfl, rfl, hH, lim_lt (by rw [← hxs.len]; exact hl), ?_⟩
            exact o1 (w1.put n (.lst (xs ++ [y1]))) σ _ rfl st (en1.step st s1.gd)
          · exact o1.elim
        · exact o1.elim
theorem snd_ret (S : SitS T k X W c) {m : ME} {v : Expr} {p : Pos} (h : chkE c m v = true) : PS X (.Return (some v) p) (rdS X.K X.mg (evS T.gl (call T k) T.fr T.xm T.xi (.ret m)) W) := by
  refine PS.weak (ps_ret (sndE m S.toSit h).pe) fun D σ H q => ?_
  obtain ⟨w, r, g, en, o⟩ := q
  refine ⟨w, r, g, en, ?_⟩
  unfold evS at o
  cases he : evE T.gl (call T k) m r w.S with
  | stuck => rw [he] at o; exact o.elim
  | err e1 S1 =>
    rw [he] at o
    exact fun w' H' c dx e s rx => o w' σ H' c dx e s (en.step s g) rx
  | ok x1 S1 =>
    rw [he] at o
    exact fun w' H' e s v rf => o w' v H' e s rf
end
end Rf
/-! Blocks, loops, defs. -/
namespace Rf
open PySem PySem.Spec PyProof.Rows L2
section
variable {K : PySem.W.Frag} {mg : Str → Option Value} {w w1 w2 w' : Wd} {H H1 H2 H' : Hp} {W : WX} {σ : VStk} {r : Env}
variable {T : Tab} {k : Nat} {X : Cx} {c : Cc}
theorem seq_out {x : SR} {f : Env → Store → SR} {D : Ends} (g : Good K w H) (h : OutS K mg W w H (x.seq f) D) : OutS K mg W w H x { D with nx := fun σ' H' => rdS K mg f W D σ' H' } := by
  cases x with
  | stuck => exact h
  | err e r' S' => exact h
  | next r' S' =>
    intro w1 σ' H1 e s en
    subst e
    exact ⟨w1, r', s.gd, en, OutS.step g s h⟩
  | ret v fr S' => exact h
  | brk r' S' => exact h
  | cont r' S' => exact h
theorem snd_ifS (S : SitS T k X W c) {t : ME} {a b : MSs} {x : Expr} {y z : List Stmt} {p : Pos} (h : chkE c t x = true) (ha : PSs X y (rdS X.K X.mg (evSs T.gl (call T k) T.fr T.xm T.xi a) W)) (hb : PSs X z (rdS X.K X.mg (evSs T.gl (call T k) T.fr T.xm T.xi b) W)) :
    PS X (.If x y z p) (rdS X.K X.mg (evS T.gl (call T k) T.fr T.xm T.xi (.ife t a b)) W) := by
  refine PS.weak (ps_if (sndE t S.toSit h).pt ha hb) fun D σ H q => ?_
  obtain ⟨w, r, g, en, o⟩ := q
  unfold evS at o
  refine rdT_s g en o (fun x S h => by rw [h]) fun x1 b w1 H1 s1 en1 hb o1 => ?_
  rw [hb] at o1
  cases b with
  | true =>
    rw [if_pos rfl]
    exact ⟨w1, r, s1.gd, en1, o1⟩
  | false =>
    rw [if_neg Bool.false_ne_true]
    exact ⟨w1, r, s1.gd, en1, o1⟩
/-- behind a turn -/
theorem turn_end {n : Nat} {r2 : Env} {w1 : Wd} {H1 : Hp} {σ2 : VStk} (hn : n = w.S.length) (s : Step K w H w1 H1) (en : EnvOk K mg w1 H1 r2 σ2) : Step K w H (w1.take n) H1 ∧ EnvOk K mg (w1.take n) H1 (gcE n r2) σ2 := by
  subst hn
  exact ⟨s.cut rfl, en.gc s.le⟩
theorem take_len {n : Nat} (h : n ≤ w.S.length) : (w.take n).S.length = n := by
  simp [Wd.take]
  omega
theorem snd_whl (S : SitS T k X W c) {t : ME} {b : MSs} {x : Expr} {y : List Stmt} {p : Pos} (h : chkE c t x = true) (hb : PSs X y (rdS X.K X.mg (evSs T.gl (call T k) T.fr T.xm T.xi b) W)) :
    PS X (.While x y [] p) (rdS X.K X.mg (evS T.gl (call T k) T.fr T.xm T.xi (.whl t b)) W) := by
  refine PS.weak (ps_while S.po (sndE t S.toSit h).pt hb) fun D σ H q => ?_
  obtain ⟨w0, r0, g0, en0, o⟩ := q
  unfold evS at o
  refine ⟨fun m σ' H' => ∃ w r, Good X.K w H' ∧ EnvOk X.K X.mg w H' r σ' ∧ w.S.length = w0.S.length ∧ OutS X.K X.mg W w H' (whlLoop (evE T.gl (call T k) t) w0.S.length (evSs T.gl (call T k) T.fr T.xm T.xi b) m r w.S) D, ⟨fuel, w0, r0, g0, en0, rfl, o⟩, ?_⟩
  rintro m σ H ⟨w, r, g, en, hlen, o⟩
  cases m with
  | zero => exact o.elim
  | succ m =>
    unfold whlLoop at o
    refine ⟨w, r, g, en, ?_⟩
    cases hc : evE T.gl (call T k) t r w.S with
    | stuck => rw [hc] at o; exact o.elim
    | err e S1 =>
      rw [hc] at o
      exact fun w' H' c dx e1 s rx => o w' σ H' c dx e1 s (en.step s g) rx
    | ok v S1 =>
      rw [hc] at o
      simp only [SR.of_ok] at o
      intro w1 H1 e1 s1
      subst e1
      cases ht : tru w1.S v with
      | none => simp only [ht] at o; exact o.elim
      | some tb =>
        simp only [ht] at o ⊢
        cases tb with
        | false =>
          simp only [Bool.false_eq_true, if_false]
          obtain ⟨s2, en2⟩ := turn_end hlen.symm s1 (en.step s1 g)
          exact o (w1.take w0.S.length) σ H1 rfl s2 en2
        | true =>
          simp only [if_true]
          refine ⟨_, fun σ' H' q => ⟨m, Nat.lt_succ_self m, q⟩, w1, r, s1.gd, en.step s1 g, ?_⟩
          cases hx : evSs T.gl (call T k) T.fr T.xm T.xi b r w1.S with
          | stuck => simp only [hx] at o; exact o.elim
          | err e r2 S2 =>
            simp only [hx] at o
            exact fun w' σ' H' c dx e s en' rx => o w' σ' H' c dx e (s1.trans g s) en' rx
          | next r2 S2 =>
            simp only [hx] at o
            intro w2 σ2 H2 e2 s2 en2
            subst e2
            have st := s1.trans g s2
            obtain ⟨s3, en3⟩ := turn_end hlen.symm st en2
            exact ⟨w2.take w0.S.length, gcE w0.S.length r2, s3.gd, en3, take_len (by rw [← hlen]; exact st.le), OutS.step g s3 o⟩
          | cont r2 S2 =>
            simp only [hx] at o
            intro w2 σ2 H2 e2 s2 en2
            subst e2
            have st := s1.trans g s2
            obtain ⟨s3, en3⟩ := turn_end hlen.symm st en2
            exact ⟨w2.take w0.S.length, gcE w0.S.length r2, s3.gd, en3, take_len (by rw [← hlen]; exact st.le), OutS.step g s3 o⟩
          | brk r2 S2 =>
            simp only [hx] at o
            intro w2 σ2 H2 e2 s2 en2
            subst e2
            obtain ⟨s3, en3⟩ := turn_end hlen.symm (s1.trans g s2) en2
            exact o (w2.take w0.S.length) σ2 H2 rfl s3 en3
          | ret u fr S2 =>
            simp only [hx] at o
            exact fun w' u H' e s rf => o w' u H' e (s1.trans g s) (repF_back s1.toMv s1.gd rf)
theorem snd_for (S : SitS T k X W c) (hc : c.calm = true) {t : Tgt} {it : MI} {b : MSs} {tg x : Expr} {y : List Stmt} {p : Pos} (h1 : chkT c t tg = true) (h2 : chkI c it tg x = true) (hb : PSs X y (rdS X.K X.mg (evSs T.gl (call T k) T.fr T.xm T.xi b) W)) :
    PS X (.For tg x y [] p) (rdS X.K X.mg (evS T.gl (call T k) T.fr T.xm T.xi (.for_ t it b)) W) := by
  obtain ⟨hi, hf⟩ := sndI it S.toSit h2
  refine PS.weak (ps_for S.po (S.cm hc) hi (sndT (S.toSit.t hc) h1) hb hf) fun D σ H q => ?_
  obtain ⟨w, r, g, en, o⟩ := q
  unfold evS at o
  refine ⟨w, r, g, en, (OutS.of g en o).mono fun wk w1 H1 s1 o1 J hJ => ?_⟩
  have g1 := s1.gd
  have en1 := en.step s1 g
  refine ⟨fun i m σ' H' => m = wk.items.length - i ∧ i ≤ wk.items.length ∧ ∃ w2 r2, EnvOk X.K X.mg w2 H' r2 σ' ∧ Step X.K w1 H1 w2 H' ∧ w2.S.length = w1.S.length ∧
    OutS X.K X.mg W w2 H' (forLoop wk t w1.S.length (evSs T.gl (call T k) T.fr T.xm T.xi b) (wk.items.drop i) r2 w2.S) D, ⟨wk.items.length, by simp, Nat.zero_le _, w1, r, en1, Step.refl g1, rfl, by rw [List.drop_zero]; exact o1⟩, ?_⟩
  rintro i m σ2 H2 ⟨rfl, hil, w2, r2, en2, s2, hlen, o2⟩
  have g2 := s2.gd
  by_cases hlt : i < wk.items.length
  · rw [List.drop_eq_getElem_cons hlt] at o2
    unfold forLoop at o2
    split at o2
    · rename_i hst
      obtain ⟨hgo, hy⟩ := (hJ i w2 H2 s2.tr hst hil).1 wk.items[i] (List.getElem?_eq_getElem hlt)
      cases hbt : bindT t wk.items[i] r2 with
      | none => simp only [hbt] at o2; exact o2.elim
      | some r3 =>
        simp only [hbt] at o2
        refine .inr ⟨hgo, _, fun σ' H' q => ⟨wk.items.length - (i + 1), by omega, rfl, hlt, q⟩, fun x1 H3 hy3 => ?_⟩
        obtain ⟨ex, rd⟩ := hy x1 H3 hy3
        have g3 := ex.good g2
        have s3 : Step X.K w2 H2 w2 H3 := ex.step g2
        refine gT_ok rd (en2.step s3 g2) hbt fun σ3 en3 _ => ⟨w2, r3, g3, en3, ?_⟩
        cases hx : evSs T.gl (call T k) T.fr T.xm T.xi b r3 w2.S with
        | stuck => simp only [hx] at o2; exact o2.elim
        | err e r4 S4 =>
          simp only [hx] at o2
          exact fun w' σ' H' c dx e s en' rx => o2 w' σ' H' c dx e (s3.trans g2 s) en' rx
        | next r4 S4 =>
          simp only [hx] at o2
          intro w4 σ4 H4 e4 s4 en4
          subst e4
          have st := s3.trans g2 s4
          obtain ⟨s5, en5⟩ := turn_end hlen.symm st en4
          exact ⟨w4.take w1.S.length, gcE w1.S.length r4, en5, s2.trans g1 s5, take_len (by rw [← hlen]; exact st.le), OutS.step g2 s5 o2⟩
        | cont r4 S4 =>
          simp only [hx] at o2
          intro w4 σ4 H4 e4 s4 en4
          subst e4
          have st := s3.trans g2 s4
          obtain ⟨s5, en5⟩ := turn_end hlen.symm st en4
          exact ⟨w4.take w1.S.length, gcE w1.S.length r4, en5, s2.trans g1 s5, take_len (by rw [← hlen]; exact st.le), OutS.step g2 s5 o2⟩
        | brk r4 S4 =>
          simp only [hx] at o2
          intro w4 σ4 H4 e4 s4 en4
          subst e4
          obtain ⟨s5, en5⟩ := turn_end hlen.symm (s3.trans g2 s4) en4
          exact o2 (w4.take w1.S.length) σ4 H4 rfl s5 en5
        | ret u fr S4 =>
          simp only [hx] at o2
          exact fun w' u H' e s rf => o2 w' u H' e (s3.trans g2 s) (repF_back s3.toMv s3.gd rf)
    · exact o2.elim
  · have e : i = wk.items.length := by omega
    subst e
    rw [List.drop_length] at o2
    unfold forLoop at o2
    split at o2
    · rename_i hst
      exact .inl ⟨(hJ _ w2 H2 s2.tr hst (Nat.le_refl _)).2 rfl, o2 w2 σ2 H2 rfl (Step.refl g2) en2⟩
    · exact o2.elim
theorem snd_drop (S : SitS T k X W c) {m : ME} {v : Expr} {p : Pos} (hl : isLcE v = false) (h : chkE c m v = true) : PS X (.Expr v p) (rdS X.K X.mg (evS T.gl (call T k) T.fr T.xm T.xi (.drop m)) W) := by
  refine PS.weak (ps_expr (sndE m S.toSit h).pe (sw_no hl _ _ _)) fun D σ H q => ?_
  obtain ⟨w, r, g, en, o⟩ := q
  unfold evS at o
  exact rdE_s g en o fun x1 w1 H1 v1 s1 en1 rx o1 => o1 w1 σ H1 rfl (Step.refl s1.gd) en1
theorem snd_rais (S : SitS T k X W c) (hc : c.calm = true) {x m m' : Str} {j : Nat} {p1 p2 p3 p4 : Pos} (hg : isGl c x = true) (hx : c.xs x = true) :
    PS X (.Raise (some (.Call (.Name x p1) [.Constant (.str m') j p2] [] p3)) none p4) (rdS X.K X.mg (evS T.gl (call T k) T.fr T.xm T.xi (.rais x m)) W) := by
  obtain ⟨hgl, hd⟩ := glob_of S.toSit hg
  obtain ⟨C, e1, e2, e3, e4, e5⟩ := S.exc x hx
  refine PS.weak (ps_raise (S.cm hc) S.tk (pmk_own PySem.F.excBase_ValueError e2 e1 e3 (raises_own e4 e5) hgl hd)) fun D σ H q => ?_
  obtain ⟨w, r, g, en, o⟩ := q
  unfold evS at o
  exact o w σ H (.ref C) none rfl (Step.refl g) en ⟨⟨⟨C, e1, rfl⟩, fun _ => rfl⟩, fun n d z => nomatch z⟩
theorem snd_try (S : SitS T k X W c) (hc : c.calm = true) {x : Str} {b h : MSs} {y : List Stmt} {s : Stmt} {ss : List Stmt} {p1 p2 p3 : Pos} (hg : isGl c x = true) (hx : c.xs x = true)
    (hb : ∀ (W' : WX) (pn : List (Addr × Obj)) (xe : Value → Shared → Prop), Takes (X.tr pn xe) W' → PassesOwn (model X.prog X.w) X.A X.env xe → PSs (X.tr pn xe) y (rdS X.K X.mg (evSs T.gl (call T k) T.fr T.xm T.xi b) W'))
    (hh : ∀ (a : Addr) (oe : Obj) (pn : List (Addr × Obj)), PSs (X.suite a ((a, oe) :: pn)) (s :: ss) (rdS X.K X.mg (evSs T.gl (call T k) T.fr T.xm T.xi h) WF)) :
    PS X (.Try y [.ExceptHandler (some (.Name x p1)) none (s :: ss) p2] [] [] p3) (rdS X.K X.mg (evS T.gl (call T k) T.fr T.xm T.xi (.try_ b x h)) W) := by
  obtain ⟨hgl, hd⟩ := glob_of S.toSit hg
  obtain ⟨C, e1, e2, e3, e4, e5⟩ := S.exc x hx
  refine PS.weak (ps_try_only S.stk S.frm ⟨hgl, hd, .inl e1⟩ S.tk (fun W' pn xe tk po => hb W' pn xe tk po) (fun a oe cls d pn _ _ => hh a oe pn)) fun D σ H q => ?_
  obtain ⟨w, r, g, en, o⟩ := q
  unfold evS at o
  refine ⟨w, r, g, en, ?_⟩
  cases hx : evSs T.gl (call T k) T.fr T.xm T.xi b r w.S with
  | stuck => rw [hx] at o; exact o
  | next r1 S1 => rw [hx] at o; exact o
  | ret v fr S1 => rw [hx] at o; exact o
  | brk r1 S1 => rw [hx] at o; exact o
  | cont r1 S1 => rw [hx] at o; exact o
  | err e r1 S1 =>
    simp only [hx] at o
    cases hm : T.xm e.cls x with
    | none => simp only [hm] at o; exact o.elim
    | some bb =>
      simp only [hm] at o
      intro w1 σ1 H1 cc dx f1 s1 en1 rx
      subst f1
      obtain ⟨C1, k1, k2⟩ := rx.1.1
      subst k2
      refine ⟨bb, S.xm e.cls x bb hm C1 C k1 e1, fun eb a ha => ?_, fun eb => ?_⟩
      · subst eb
        simp only at o
        have o' := OutS.step g s1 o
        refine ⟨w1, r1, s1.gd, en1, ?_⟩
        cases hy : evSs T.gl (call T k) T.fr T.xm T.xi h r1 w1.S with
        | err _ _ _ => rw [hy] at o'; exact o'.elim
        | stuck => rw [hy] at o'; exact o'
        | next r1 S1 => rw [hy] at o'; exact o'
        | ret v fr S1 => rw [hy] at o'; exact o'
        | brk r1 S1 => rw [hy] at o'; exact o'
        | cont r1 S1 => rw [hy] at o'; exact o'
      · subst eb
        exact o w1 σ1 H1 (.ref C1) dx rfl s1 en1 rx
/-- a clause's answer -/
def rdH (K : PySem.W.Frag) (mg : Str → Option Value) (xi : Exm) (i : Nat) (h : HE) (a : Addr) (cls : Value) (d : Option Addr) : TE := fun σ H Q => ∃ e w b, RepX K mg w H e cls d ∧ σ[i]? = some (some (.ref a)) ∧ evH xi e h = some (.bool b) ∧ Q (.bl b) H
def rIsX (K : PySem.W.Frag) (a : Addr) (cls : Value) (d : Option Addr) : List V → Hp → VK → Prop := fun xs H Q => ∃ D, cls = .ref D ∧ d = none ∧ ExcC K D ∧ rIsE K D a xs H Q
theorem call_isX {X : Cx} {a : Addr} {oe : Obj} {cls : Value} {d : Option Addr} {pn : List (Addr × Obj)} (hz : Zc cls d oe) (hf : ∃ vs, oe.data = .fields vs) : CallR (X.suite a ((a, oe) :: pn)) (.builtin "isinstance") (rIsX X.K a cls d) := by
  intro pins s σ H xs us Q I r h
  obtain ⟨D, e1, e2, C, h⟩ := h
  subst e1 e2
  exact call_isE C hz hf pins s σ H xs us Q I r h
theorem vis_ofX (S : Sit T k X W c) {i : Nat} {x : Str} (h : vis c i x = true) : X.N[i]? = some x ∧ Vis X.env.scope x ∧ (x == ("__debug__" : Str)) = false ∧ (x == ("__classdict__" : Str)) = false := by
  unfold vis at h
  simp only [Bool.and_eq_true, decide_eq_true_eq, Bool.not_eq_true'] at h
  obtain ⟨⟨⟨h1, h2⟩, h3⟩, h4⟩ := h
  refine ⟨by rw [S.N]; exact h1, ?_, h3, h4⟩
  rw [S.sc]
  unfold Vis
  split at h2 <;> first | exact .inl (by assumption) | exact .inr (.inl (by assumption)) | exact .inr (.inr (by assumption)) | cases h2
theorem peNo {X : Cx} {e : Expr} : PE X e (fun _ _ _ => False) := ⟨fun _ _ _ _ _ _ h => h.elim⟩
theorem pe_H (S : SitS T k X W c) {i : Nat} {n : Str} {a : Addr} {oe : Obj} {cls : Value} {d : Option Addr} {pn : List (Addr × Obj)} (hz : Zc cls d oe) (hf : ∃ vs, oe.data = .fields vs) :
    ∀ (h : HE) {v : Expr}, chkH c i n h v = true → PE (X.suite a ((a, oe) :: pn)) v (rdH X.K X.mg T.xi i h a cls d)
  | .is f, v, h => by
    unfold chkH at h
    split at h <;> first | contradiction | skip
    rename_i eq1
    cases eq1
    rename_i x p1 y p2 z p3 p4
    simp only [Bool.and_eq_true] at h
    obtain ⟨⟨⟨h1, h2⟩, h3, h4⟩, h5, h6⟩ := h
    obtain rfl := eq_of_beq h1
    obtain rfl := eq_of_beq h5
    obtain ⟨hg, hd⟩ := glob_of S.toSit h2
    obtain ⟨hg2, hd2⟩ := glob_of S.toSit h6
    by_cases hc : ∃ cv, ClsN X.mg z cv
    · obtain ⟨cv, hcv⟩ := hc
      have pz : ∃ u : V, PE (X.suite a ((a, oe) :: pn)) (.Name z p3) (tC u) ∧ ∀ w, RelV u w → w = cv := by
        rcases hcv with ⟨F, e1, e2⟩ | ⟨e1, e2, e3⟩
        · subst e2
          exact ⟨.ref F, pe_glob (X := X.suite a ((a, oe) :: pn)) hg2 e1 rfl hd2, fun w q => q⟩
        · subst e2 e3
          exact ⟨.ty "ValueError", pe_bltn (X := X.suite a ((a, oe) :: pn)) hg2 e1 (u := .type "ValueError") (ExcClass.boot excClass_ValueError) rfl (by decide) hd2, fun w q => q⟩
      obtain ⟨u, pu, hu⟩ := pz
      obtain ⟨v1, v2, v3, v4⟩ := vis_ofX S.toSit h4
      have pv : PE (X.suite a ((a, oe) :: pn)) (.Name y p2) (tVar i) := pe_var (X := X.suite a ((a, oe) :: pn)) v1 v2 v3 v4
      refine PE.weak (pe_callB (call_isX hz hf) hg (S.blt _ (by decide)) (by decide +kernel) (pa_cons pv (pa_cons pu pa_nil rfl) rfl) (by decide) hd rfl (by rfl)) fun σ H Q q => ?_
      obtain ⟨e, w, b, rx, hs, ev, q⟩ := q
      unfold evH at ev
      split at ev
      · rename_i hn
        simp only [Option.map_eq_some_iff, PyData.bool.injEq, exists_eq_right] at ev
        obtain ⟨⟨⟨D, k1, k2⟩, k3⟩, _⟩ := rx
        obtain ⟨hC, cv', h7, h8⟩ := S.xi _ _ _ ev D k1
        have ecv : cv' = cv := by
          rcases hcv with ⟨F, e1, e2⟩ | ⟨e1, e2, e3⟩
          · rcases h7 with ⟨F', f1, f2⟩ | ⟨f1, _, _⟩
            · rw [e1] at f1
              cases f1
              rw [e2, f2]
            · rw [e1] at f1
              cases f1
          · rcases h7 with ⟨F', f1, f2⟩ | ⟨f1, f2, f3⟩
            · rw [e1] at f1
              cases f1
            · rw [e3, f3]
        subst ecv
        exact ⟨_, hs, D, k2, k3 (by cases hfl : e.fld with | none => rfl | some _ => rw [hfl] at hn; cases hn), hC, u, cv', b, rfl, hu, h8, q⟩
      · cases ev
    · refine PE.weak peNo fun σ H Q q => ?_
      obtain ⟨e, w, b, rx, hs, ev, q⟩ := q
      unfold evH at ev
      split at ev
      · simp only [Option.map_eq_some_iff, PyData.bool.injEq, exists_eq_right] at ev
        obtain ⟨⟨⟨D, k1, k2⟩, k3⟩, _⟩ := rx
        obtain ⟨hC, cv', h7, h8⟩ := S.xi _ _ _ ev D k1
        exact hc ⟨cv', h7⟩
      · cases ev
  | .and f g, v, h => by
    unfold chkH at h
    split at h <;> first | contradiction | skip
    rename_i eq1
    cases eq1
    simp only [Bool.and_eq_true] at h
    refine PE.weak (pe_and (pe_H S hz hf f h.1) (pe_one (pe_H S hz hf g h.2))) fun σ H Q q => ?_
    obtain ⟨e, w, b, rx, hs, ev, q⟩ := q
    unfold evH at ev
    split at ev
    · rename_i ea
      exact ⟨e, w, true, rx, hs, ea, true, rfl, by rw [if_pos rfl]; exact ⟨e, w, b, rx, hs, ev, q⟩⟩
    · rename_i ea
      cases ev
      exact ⟨e, w, false, rx, hs, ea, false, rfl, by rw [if_neg (by decide)]; exact q⟩
    · cases ev
theorem evH_bool {xi : Exm} {e : Exn} : ∀ {h : HE} {d : D}, evH xi e h = some d → ∃ b, d = .bool b
  | .is f, d, h => by
    unfold evH at h
    split at h
    · simp only [Option.map_eq_some_iff] at h
      obtain ⟨b, _, e⟩ := h
      exact ⟨b, e.symm⟩
    · cases h
  | .and f g, d, h => by
    unfold evH at h
    split at h
    · exact evH_bool h
    · cases h
      exact ⟨false, rfl⟩
    · cases h
theorem snd_tryR (S : SitS T k X W c) (hc : c.calm = true) {x n : Str} {b : MSs} {i : Nat} {h : HE} {y : List Stmt} {v : Expr} {p1 p2 p3 p4 : Pos} (hg : isGl c x = true) (hx : c.xs x = true)
    (hb : ∀ (W' : WX) (pn : List (Addr × Obj)) (xe : Value → Shared → Prop), Takes (X.tr pn xe) W' → PassesOwn (model X.prog X.w) X.A X.env xe → PSs (X.tr pn xe) y (rdS X.K X.mg (evSs T.gl (call T k) T.fr T.xm T.xi b) W'))
    (hi : c.N[i]? = some n) (hn : locN c n = true) (hh : chkH c i n h v = true) :
    PS X (.Try y [.ExceptHandler (some (.Name x p1)) (some n) [.Return (some v) p4] p2] [] [] p3) (rdS X.K X.mg (evS T.gl (call T k) T.fr T.xm T.xi (.tryR b x i h)) W) := by
  obtain ⟨hgl, hd⟩ := glob_of S.toSit hg
  obtain ⟨C, e1, e2, e3, e4, e5⟩ := S.exc x hx
  have kn : X.env.kindOf n = some .local := by
    have : X.env.scope.names.lookup n = some .local := by rw [S.sc]; exact of_decide_eq_true hn
    exact this
  refine PS.weak (ps_try_as S.stk S.frm S.nd (by rw [S.N]; exact hi) kn ⟨hgl, hd, .inl e1⟩ S.tk (fun W' pn xe tk po => hb W' pn xe tk po)
    (ts := fun a cls d => tRet (rdH X.K X.mg T.xi i h a cls d)) (fun a oe cls d pn hz hf => pss_one (ps_ret (pe_H S hz hf h hh)))) fun D σ H q => ?_
  obtain ⟨w, r, g, en, o⟩ := q
  unfold evS at o
  refine ⟨w, r, g, en, ?_⟩
  cases hx : evSs T.gl (call T k) T.fr T.xm T.xi b r w.S with
  | stuck => rw [hx] at o; exact o
  | next r1 S1 => rw [hx] at o; exact o
  | ret v fr S1 => rw [hx] at o; exact o
  | brk r1 S1 => rw [hx] at o; exact o
  | cont r1 S1 => rw [hx] at o; exact o
  | err e r1 S1 =>
    simp only [hx] at o
    cases hm : T.xm e.cls x with
    | none => simp only [hm] at o; exact o.elim
    | some bb =>
      simp only [hm] at o
      intro w1 σ1 H1 cc dx f1 s1 en1 rx
      subst f1
      obtain ⟨C1, k1, k2⟩ := rx.1.1
      subst k2
      refine ⟨bb, S.xm e.cls x bb hm C1 C k1 e1, fun eb a ha => ?_, fun eb => ?_⟩
      · subst eb
        simp only at o
        cases hv : evH T.xi e h with
        | none => rw [hv] at o; exact o.elim
        | some d =>
          rw [hv] at o
          obtain ⟨bv, ed⟩ := evH_bool hv
          subst ed
          simp only at o
          split at o
          · rename_i hi1
            have hl : i < σ1.length := by
              rw [← en1.len]
              exact hi1
            refine ⟨e, w1, bv, rx, ?_, hv, o w1 (.bl bv) H1 rfl s1 ⟨by simp [RepV, RepD], fun _ _ z => nomatch z⟩⟩
            rw [List.getElem?_set_self hl]
          · exact o.elim
      · subst eb
        exact o w1 σ1 H1 (.ref C1) dx rfl s1 en1 rx
theorem Sit.tr (S : SitS T k X W c) {W' : WX} {pn : List (Addr × Obj)} {xe : Value → Shared → Prop} (tk : Takes (X.tr pn xe) W') (po : PassesOwn (model X.prog X.w) X.A X.env xe) : SitS T k (X.tr pn xe) W' c :=
  ⟨⟨S.N, S.sc, S.fn, S.nd, tk, S.cm, S.room, S.un, S.gl, S.blt, S.fs, S.defs⟩, po, S.stk, S.frm, S.knd, S.exc, S.xm, S.xi⟩
theorem Sit.suite (S : SitS T k X W c) {a : Addr} {pn : List (Addr × Obj)} : SitS T k (X.suite a pn) WF { c with calm := false } :=
  ⟨⟨S.N, S.sc, S.fn, S.nd, takes0, (fun e => nomatch e), (fun e => nomatch e), S.un, S.gl, S.blt, S.fs, S.defs⟩, PassesOwn.never, S.stk, S.frm, S.knd, S.exc, S.xm, S.xi⟩
mutual
theorem sndS : ∀ (m : MS) {c : Cc} {st : Stmt} {X : Cx} {W : WX}, SitS T k X W c → chkS c m st = true → PS X st (rdS X.K X.mg (evS T.gl (call T k) T.fr T.xm T.xi m) W)
  | .asg i e, c, st, X, W, S, h => by
    unfold chkS at h
    split at h <;> first | contradiction | skip
    rename_i eq1
    cases eq1
    simp only [Bool.and_eq_true] at h
    exact snd_asg S h.1.1 h.1.2 h.2
  | .asgN i e, c, st, X, W, S, h => by
    unfold chkS at h
    split at h <;> first | contradiction | skip
    rename_i eq1
    cases eq1
    simp only [Bool.and_eq_true] at h
    exact snd_asgN S h.1.1 h.1.2 h.2
  | .asgT t e, c, st, X, W, S, h => by
    unfold chkS at h
    split at h <;> first | contradiction | skip
    rename_i eq1
    cases eq1
    simp only [Bool.and_eq_true] at h
    exact snd_asgT S h.1.1.1 h.1.1.2 h.1.2 h.2
  | .asg2 i j a b, c, st, X, W, S, h => by
    unfold chkS at h
    split at h <;> first | contradiction | skip
    rename_i eq1
    cases eq1
    simp only [Bool.and_eq_true, decide_eq_true_eq, Bool.not_eq_true'] at h
    obtain ⟨⟨⟨⟨⟨⟨⟨⟨⟨⟨⟨⟨h1, h2⟩, h3⟩, h4⟩, h5⟩, h6⟩, h7⟩, h8⟩, h9⟩, h10⟩, h11⟩, h12⟩, _⟩ := h
    exact snd_asg2 S h1 h2 h3 h4 h5 h6 h7 h8 h9 h10 h11 h12
  | .aug i op e, c, st, X, W, S, h => by
    unfold chkS at h
    split at h <;> first | contradiction | skip
    rename_i eq1
    cases eq1
    simp only [Bool.and_eq_true, decide_eq_true_eq] at h
    obtain ⟨⟨⟨h1, h2⟩, h3⟩, h4⟩ := h
    subst h2
    exact snd_aug S h1 h3 h4
  | .setI x i e, c, st, X, W, S, h => by
    unfold chkS at h
    split at h <;> first | contradiction | skip
    rename_i eq1
    cases eq1
    simp only [Bool.and_eq_true] at h
    exact snd_setI S h.1.1 h.1.2 h.2
  | .app x e, c, st, X, W, S, h => by
    unfold chkS at h
    split at h <;> first | contradiction | skip
    rename_i eq1
    cases eq1
    simp only [Bool.and_eq_true] at h
    obtain ⟨⟨⟨h1, h2⟩, h3⟩, h4⟩ := h
    have e := eq_of_beq h2
    subst e
    exact snd_app S h1 h3 h4
  | .ife t a b, c, st, X, W, S, h => by
    unfold chkS at h
    split at h <;> first | contradiction | skip
    rename_i eq1
    cases eq1
    simp only [Bool.and_eq_true] at h
    exact snd_ifS S h.1.1 (sndSs a S h.1.2) (sndSs b S h.2)
  | .whl t b, c, st, X, W, S, h => by
    unfold chkS at h
    split at h <;> first | contradiction | skip
    rename_i eq1
    cases eq1
    simp only [Bool.and_eq_true] at h
    exact snd_whl S h.1 (sndSs b S h.2)
  | .for_ t it b, c, st, X, W, S, h => by
    unfold chkS at h
    split at h <;> first | contradiction | skip
    rename_i eq1
    cases eq1
    simp only [Bool.and_eq_true] at h
    exact snd_for S h.1.1.1 h.1.1.2 h.1.2 (sndSs b S h.2)
  | .ret e, c, st, X, W, S, h => by
    unfold chkS at h
    split at h <;> first | contradiction | skip
    rename_i eq1
    cases eq1
    exact snd_ret S h
  | .retN, c, st, X, W, S, h => by
    unfold chkS at h
    split at h <;> first | contradiction | skip
    refine PS.weak ps_retN fun D σ H q => ?_
    obtain ⟨w, r, g, en, o⟩ := q
    unfold evS at o
    exact o w .non H rfl (Step.refl g) ⟨by simp [RepV, RepD], fun z => nomatch z⟩
  | .drop e, c, st, X, W, S, h => by
    unfold chkS at h
    split at h <;> first | contradiction | skip
    rename_i eq1
    cases eq1
    simp only [Bool.and_eq_true, Bool.not_eq_true'] at h
    exact snd_drop S h.1 h.2
  | .rais x m, c, st, X, W, S, h => by
    unfold chkS at h
    split at h <;> first | contradiction | skip
    rename_i eq1
    cases eq1
    simp only [Bool.and_eq_true] at h
    obtain ⟨⟨h1, h2, h3⟩, h4⟩ := h
    have e := eq_of_beq h2
    subst e
    exact snd_rais S h1 h3 h4
  | .try_ b x hd, c, st, X, W, S, h => by
    unfold chkS at h
    split at h <;> first | contradiction | skip
    rename_i eq1
    cases eq1
    simp only [Bool.and_eq_true] at h
    obtain ⟨⟨⟨⟨h1, h2, h3⟩, h4⟩, h5⟩, h6⟩ := h
    have e := eq_of_beq h2
    subst e
    exact snd_try S h1 h3 h4 (fun W' pn xe tk po => sndSs b (Sit.tr S tk po) h5) (fun a oe pn => sndSs hd (Sit.suite S) h6)
  | .tryR b x i hd, c, st, X, W, S, h => by
    unfold chkS at h
    split at h <;> first | contradiction | skip
    rename_i eq1
    cases eq1
    simp only [Bool.and_eq_true, decide_eq_true_eq] at h
    obtain ⟨⟨⟨⟨⟨⟨h1, h2, h3⟩, h4⟩, h5⟩, h6⟩, h7⟩, h8⟩ := h
    have e := eq_of_beq h2
    subst e
    exact snd_tryR S h1 h3 h4 (fun W' pn xe tk po => sndSs b (Sit.tr S tk po) h5) h6 h7 h8
  | .asg3 i j l a b e, c, st, X, W, S, h => by
    unfold chkS at h
    split at h <;> first | contradiction | skip
    rename_i eq1
    cases eq1
    simp only [Bool.and_eq_true, decide_eq_true_eq, Bool.not_eq_true'] at h
    obtain ⟨⟨⟨⟨⟨⟨⟨⟨⟨⟨⟨⟨⟨⟨⟨⟨⟨⟨⟨⟨h1, h2⟩, h3⟩, h4⟩, h5⟩, h6⟩, h7⟩, h8⟩, h9⟩, h10⟩, h11⟩, h12⟩, h13⟩, h14⟩, h15⟩, h16⟩, h17⟩, h18⟩, h19⟩, h20⟩, _⟩ := h
    exact snd_asg3 S h1 h2 h3 h4 h5 h6 h7 h8 h9 h10 h11 h12 h13 h14 h15 h16 h17 h18 h19 h20
  | .pass, c, st, X, W, S, h => by
    unfold chkS at h
    split at h <;> first | contradiction | skip
    refine PS.weak ps_pass fun D σ H q => ?_
    obtain ⟨w, r, g, en, o⟩ := q
    unfold evS at o
    exact o w σ H rfl (Step.refl g) en
  | .brk, c, st, X, W, S, h => by
    unfold chkS at h
    split at h <;> first | contradiction | skip
    refine PS.weak ps_break fun D σ H q => ?_
    obtain ⟨w, r, g, en, o⟩ := q
    unfold evS at o
    exact o w σ H rfl (Step.refl g) en
  | .cont, c, st, X, W, S, h => by
    unfold chkS at h
    split at h <;> first | contradiction | skip
    refine PS.weak ps_continue fun D σ H q => ?_
    obtain ⟨w, r, g, en, o⟩ := q
    unfold evS at o
    exact o w σ H rfl (Step.refl g) en
theorem sndSs : ∀ (m : MSs) {c : Cc} {st : List Stmt} {X : Cx} {W : WX}, SitS T k X W c → chkSs c m st = true → PSs X st (rdS X.K X.mg (evSs T.gl (call T k) T.fr T.xm T.xi m) W)
  | .nil, c, st, X, W, S, h => by
    cases st with
    | cons _ _ => simp [chkSs] at h
    | nil =>
      refine PSs.weak pss_nil fun D σ H q => ?_
      obtain ⟨w, r, g, en, o⟩ := q
      unfold evSs at o
      exact o w σ H rfl (Step.refl g) en
  | .cons a b, c, st, X, W, S, h => by
    cases st with
    | nil => simp [chkSs] at h
    | cons x y =>
      simp only [chkSs, Bool.and_eq_true] at h
      refine PSs.weak (pss_cons (sndS a S h.1) (sndSs b S h.2)) fun D σ H q => ?_
      obtain ⟨w, r, g, en, o⟩ := q
      unfold evSs at o
      exact ⟨w, r, g, en, seq_out g o⟩
end
end
end Rf
/-! Defs, the law's end. -/
namespace Rf
open PySem PySem.Spec PyProof.Rows L2
section
variable {K : PySem.W.Frag} {mg : Str → Option Value} {w w1 w2 w' : Wd} {H H1 H2 H' : Hp} {W : WX} {σ : VStk} {r : Env}
def scOk (N : List Str) (np : Nat) (sc : Scope) : Bool :=
  (match sc.kind with | .function => true | _ => false) && !sc.isCoroutine && !sc.isGenerator && decide N.Nodup && decide (np ≤ N.length) && ((N.take np).all fun x => match sc.names.lookup x with | some .local => true | some .cell => true | _ => false) &&
    (sc.names.all fun y => match y.2 with | .free => false | _ => true)
theorem scOk_of {N : List Str} {np : Nat} {sc : Scope} (h : scOk N np sc = true) : FnScope N (N.take np) sc := by
  unfold scOk at h
  simp only [Bool.and_eq_true, Bool.not_eq_true', decide_eq_true_eq, List.all_eq_true] at h
  obtain ⟨⟨⟨⟨⟨⟨h1, h2⟩, h3⟩, h4⟩, h5⟩, h6⟩, h7⟩ := h
  refine ⟨?_, h2, h3, h4, ?_, fun x hx => ?_, fun y hy e => ?_⟩
  · split at h1
    · assumption
    · cases h1
  · rw [List.length_take, Nat.min_eq_left h5]
  · have := h6 x hx
    split at this
    · exact .inl (by assumption)
    · exact .inr (by assumption)
    · cases this
  · have := h7 y hy
    rw [e] at this
    cases this
def okDef (fs xs : Str → Bool) (m : MDef) (st : Stmt) : Bool := scOk m.N m.np (defScope st) && chkSs ⟨true, m.N, defScope st, fun _ => true, fs, xs⟩ m.body (defBody st)
structure DefTxt (fs xs : Str → Bool) (K : PySem.W.Frag) (mg : Str → Option Value) (f : Str) (m : MDef) : Prop where
  ex : ∃ (st : Stmt) (a : Addr) (fd : FuncData), mg f = some (.ref a) ∧ PySem.W.keepIn K (.ref a) = true ∧ Fun K f f st a fd ∧ (∀ us : List Value, us.length = (m.N.take m.np).length → bindArgs fd ⟨us, []⟩ = pure ((m.N.take m.np).zip us)) ∧ okDef fs xs m st = true
structure TabTxt (T : Tab) (fs xs : Str → Bool) (K : PySem.W.Frag) (mg : Str → Option Value) : Prop where
  gl : ∀ x v, T.gl x = some v → ∃ (u : Value) (y : V), mg x = some u ∧ RelV y u ∧ ∀ (w : Wd) (H : Hp), Good K w H → RepV K mg w H v y
  blt : ∀ x ∈ (["len", "abs", "int", "str", "sum", "all", "any", "tuple", "list", "sorted", "min", "max", "repr", "bool", "dict", "isinstance", "range", "enumerate", "zip"] : List Str), mg x = none
  fsd : ∀ f, fs f = true → ∃ m, T.defs f = some m
  exc : ∀ x, xs x = true → ∃ C, mg x = some (.ref C) ∧ PySem.W.excIn K C [.type "ValueError", .type "Exception", .type "BaseException", .type "object"] "ValueError.__new__" = true ∧ PySem.W.keepIn K (.ref C) = true ∧
    PySem.W.subIn K (.ref C) (.type "BaseException") = some true ∧ PySem.W.typeIn K (.ref C) = some (.type "type")
  xm : ∀ x y b, T.xm x y = some b → ∀ C1 C2, mg x = some (.ref C1) → mg y = some (.ref C2) → PySem.W.exmOne K (.ref C1) (.ref C2) = some b
  xi : ∀ x y b, T.xi x y = some b → ∀ D, mg x = some (.ref D) → ExcC K D ∧ ∃ cv, ClsN mg y cv ∧ PySem.W.kitOne K (.ref D) cv = some b
  defs : ∀ f m, T.defs f = some m → DefTxt fs xs K mg f m
theorem repVs_len : ∀ {xs : List Val} {vs : List V}, RepVs K mg w H xs vs → xs.length = vs.length
  | [], _, h => by
    simp only [RepVs] at h
    subst h
    rfl
  | x :: xs, _, h => by
    obtain ⟨v, r, e, _, h2⟩ := h
    subst e
    rw [List.length_cons, List.length_cons, repVs_len h2]
theorem repVs_get : ∀ {xs : List Val} {vs : List V} {i : Nat} {x : Val}, RepVs K mg w H xs vs → xs[i]? = some x → ∃ v, vs[i]? = some v ∧ RepV K mg w H x v
  | [], _, _, _, _, e => by simp at e
  | x :: xs, _, 0, y, h, e => by
    obtain ⟨v, r, q, h1, _⟩ := h
    subst q
    simp only [List.getElem?_cons_zero, Option.some.injEq] at e
    subst e
    exact ⟨v, rfl, h1⟩
  | x :: xs, _, i + 1, y, h, e => by
    obtain ⟨v, r, q, _, h2⟩ := h
    subst q
    simp only [List.getElem?_cons_succ] at e ⊢
    exact repVs_get h2 e
theorem env_start {m : MDef} {xs : List Val} {vs : List V} (h : RepVs K mg w H xs vs) : EnvOk K mg w H (args0 m xs) (L2.start m.N vs) := by
  have hl := repVs_len h
  refine ⟨by unfold args0 L2.start; simp [hl], fun i x e => ?_⟩
  unfold args0 at e
  by_cases hi : i < xs.length
  · rw [List.getElem?_append_left (by simpa using hi), List.getElem?_map] at e
    cases hx : xs[i]? with
    | none => rw [hx] at e; cases e
    | some y =>
      rw [hx] at e
      simp only [Option.map_some, Option.some.injEq] at e
      subst e
      obtain ⟨v, h1, h2⟩ := repVs_get h hx
      refine ⟨v, ?_, h2⟩
      unfold L2.start
      rw [List.getElem?_append_left (by simpa [← hl] using hi), List.getElem?_map, h1]
      rfl
  · rw [List.getElem?_append_right (by simpa using hi), List.getElem?_replicate] at e
    split at e <;> cases e
/-! ### a list of a def's own, handed back -/
mutual
theorem repD_cut {n m : Nat} {us : List V} (hn : n ≤ m) (hm : m < w.S.length) (hH : H (w.mu m) = some (.lst us)) : ∀ {d : PyData} {v : V}, RepD K w H d v → RepD K (w.take n) (rm H (w.mu m)) d v
  | .none, _, h => h
  | .bool _, _, h => h
  | .int _, _, h => h
  | .str _, _, h => h
  | .list xs, _, h => by
    unfold RepD at h ⊢
    obtain ⟨a, vs, e, h1, h2, h3⟩ := h
    exact ⟨a, vs, e, by rw [rm_ne (h2.m m hm)]; exact h1, out_take h2, repDs_cut hn hm hH h3⟩
  | .tuple xs, _, h => by
    unfold RepD at h ⊢
    obtain ⟨a, vs, e, h1, h3⟩ := h
    exact ⟨a, vs, e, sqT_rm hH h1, repDs_cut hn hm hH h3⟩
  | .dict _, _, h => by
    unfold RepD at h
    exact h.elim
theorem repDs_cut {n m : Nat} {us : List V} (hn : n ≤ m) (hm : m < w.S.length) (hH : H (w.mu m) = some (.lst us)) : ∀ {ds : List PyData} {vs : List V}, RepDs K w H ds vs → RepDs K (w.take n) (rm H (w.mu m)) ds vs
  | [], _, h => h
  | d :: ds, _, h => by
    unfold RepDs at h ⊢
    obtain ⟨v, r, e, h1, h2⟩ := h
    exact ⟨v, r, e, repD_cut hn hm hH h1, repDs_cut hn hm hH h2⟩
end
theorem good_cut {n m : Nat} {us : List V} (g : Good K w H) (hn : n ≤ m) (hm : m < w.S.length) (hH : H (w.mu m) = some (.lst us)) : Good K (w.take n) (rm H (w.mu m)) := by
  refine ⟨fun i c e => ?_, (g.take n).inj, fun a ha => ?_⟩
  · have hi : i < n := by
      have := (List.getElem?_eq_some_iff.mp e).1
      simp only [Wd.take, List.length_take] at this
      omega
    have e' : w.S[i]? = some c := by
      simp only [Wd.take] at e
      rw [List.getElem?_take] at e
      by_cases z : i < n
      · rw [if_pos z] at e; exact e
      · exact absurd hi z
    have ne : w.mu i ≠ w.mu m := fun z => by
      have := g.inj i m (by omega) hm z
      omega
    have q := g.cell i c e'
    cases c with
    | lst xs =>
      obtain ⟨vs, q1, q2⟩ := q
      exact ⟨vs, by rw [show (w.take n).mu i = w.mu i from rfl, rm_ne ne]; exact q1, repDs_cut hn hm hH q2⟩
    | dct _ => exact q
  · obtain ⟨h1, vs, h2⟩ := g.rs a ha
    exact ⟨outM_take h1, vs, by rw [rm_ne (h1 m hm)]; exact h2⟩
theorem fin_out {n : Nat} {need : Bool} {x : SR} {E : XK} {Q : VK} (hn : n = w.S.length) (o : OutR K mg E w H (fin n need x) fun y w' H' => ∀ v, RepF K mg need H w' H' y v → Q v H') :
    OutS K mg (fun cls d _ H => E cls d H) w H x { nx := fun _ H' => Q .non H', rt := Q } := by
  cases x with
  | stuck => exact o
  | brk _ _ => exact o.elim
  | cont _ _ => exact o.elim
  | err e r S' =>
    intro w' σ' H' c dx e1 s en rx
    subst e1
    refine o (w'.take n) H' c dx rfl (s.cut hn) ⟨rx.1, fun nm d q => ?_⟩
    obtain ⟨dd, v, h1, h2, h3⟩ := rx.2 nm d q
    exact ⟨dd, v, h1, h2, repD_take h3⟩
  | next r S' =>
    intro w' σ' H' e1 s en
    subst e1
    cases need with
    | true => exact o.elim
    | false => exact o (w'.take n) H' rfl (s.cut hn) .non ⟨by simp [RepV, RepD], fun z => nomatch z⟩
  | ret v fr S' =>
    intro w' u H' e1 s rf
    subst e1
    have s2 := s.cut hn
    have plain : ∀ {y : Val}, (¬ ∃ m, y = .loc m) → y = v → (if need && !fr then (.stuck : Res Val) else .ok y (w'.S.take n)) = fin n need (.ret v fr w'.S) → Q u H' := by
      intro y hy e2 e3
      subst e2
      rw [← e3] at o
      split at o
      · exact o.elim
      · rename_i hc
        refine o (w'.take n) H' rfl s2 u ⟨?_, fun hneed xs ex => ?_⟩
        · cases y with
          | d d => exact repD_take rf.1
          | loc m => exact absurd ⟨m, rfl⟩ hy
          | scr _ => exact rf.1
          | fn _ => exact rf.1
        · subst hneed
          have hfr : fr = true := by simpa using hc
          obtain ⟨p, vs, f1, f2, f3, f4, f5⟩ := rf.2 hfr xs ex
          exact ⟨p, vs, f1, f2, f3, f4.take n, repDs_take f5⟩
    cases v with
    | d d => exact plain (y := .d d) (fun ⟨m, z⟩ => nomatch z) rfl rfl
    | scr d => exact plain (y := .scr d) (fun ⟨m, z⟩ => nomatch z) rfl rfl
    | fn d => exact plain (y := .fn d) (fun ⟨m, z⟩ => nomatch z) rfl rfl
    | loc m =>
      obtain ⟨hm, hu⟩ := rf.1
      unfold fin hand at o
      simp only at o
      by_cases hmn : m < n
      · rw [if_pos hmn] at o
        split at o
        · exact o.elim
        · rename_i hneed
          refine o (w'.take n) H' rfl s2 u ⟨⟨?_, hu⟩, fun z => absurd z hneed⟩
          simp only [Wd.take, List.length_take]
          omega
      · rw [if_neg hmn] at o
        cases hc : w'.S[m]? with
        | none => rw [hc] at o; exact o.elim
        | some cl =>
          rw [hc] at o
          cases cl with
          | dct _ => exact o.elim
          | lst xs =>
            obtain ⟨vs, q1, q2⟩ := s.gd.cell m _ hc
            have gc := good_cut (n := n) s.gd (Nat.le_of_not_lt hmn) hm q1
            have rc := repDs_cut (n := n) (Nat.le_of_not_lt hmn) hm q1 q2
            refine o (w'.take n) H' rfl s2 u ⟨?_, fun _ ys ey => ?_⟩
            · simp only [RepV, RepD]
              refine ⟨w'.mu m, vs, hu, q1, ⟨fun j hj z => ?_, fun z => ?_⟩, repDs_take q2⟩
              · simp only [Wd.take, List.length_take] at hj
                have := s.gd.inj m j hm (by omega) z
                omega
              · exact (s.gd.rs _ z).1 m hm rfl
            · cases ey
              exact ⟨w'.mu m, vs, hu, s.nw m (by omega) hm, q1, gc, rc⟩
/-- every def keeps its promise -/
theorem def_fn {T : Tab} {fs xs : Str → Bool} {P : Program} {wd : World} {base : Heap} (X : TabTxt T fs xs K mg) : ∀ (k : Nat) (f : Str) (m : MDef), T.defs f = some m → ∀ (st : Stmt) (a : Addr) (fd : FuncData), mg f = some (.ref a) → Fun K f f st a fd → okDef fs xs m st = true →
    FnOk P wd K mg base (L2.CX P wd) k a fd (m.N.take m.np) (spOf T k K mg f)
  | 0, f, m, hm, st, a, fd, e1, e3, e5 => by
    refine ⟨fun vs H Q E h => ?_, fun A outer s H args us vs Q E _ _ _ _ h => ?_⟩
    · obtain ⟨w, ys, _, _, o⟩ := h
      exact o.elim
    · obtain ⟨w, ys, _, _, o⟩ := h
      exact o.elim
  | k + 1, f, m, hm, st, a, fd, e1, e3, e5 => by
    unfold okDef at e5
    rw [Bool.and_eq_true] at e5
    have sc := scOk_of e5.1
    have hnp : (m.N.take m.np).length = m.np := by
      have := e5.1
      unfold scOk at this
      simp only [Bool.and_eq_true, decide_eq_true_eq] at this
      rw [List.length_take, Nat.min_eq_left this.1.1.2]
    have hfr : T.fr f = m.fr := by unfold Tab.fr; rw [hm]
    refine e3.okX sc (fun vs H Q E h => ?_) fun cdv A outer s H vs Q E hr h => ?_
    · obtain ⟨w, ys, _, rv, o⟩ := h
      rw [hnp, ← repVs_len rv]
      have ex : call T (k + 1) f ys w.S = (match T.defs f with | none => .stuck | some m => if ys.length = m.np then fin w.S.length m.fr (evSs T.gl (call T k) T.fr T.xm T.xi m.body (args0 m ys) w.S) else .stuck) := rfl
      rw [ex, hm] at o
      by_cases hl : ys.length = m.np
      · exact hl
      · simp only [if_neg hl] at o
        exact o.elim
    · obtain ⟨w, ys, g, rv, o⟩ := h
      refine ⟨rdS K mg (evSs T.gl (call T k) T.fr T.xm T.xi m.body) (fun cls d _ H => E cls d H), ?_, w, args0 m ys, g, env_start rv, ?_⟩
      · refine sndSs (c := ⟨true, m.N, defScope st, fun _ => true, fs, xs⟩) m.body ⟨⟨rfl, rfl, rfl, sc.nd, takes_of rfl rfl rfl rfl, fun _ => rfl, fun _ => hr, ?_, X.gl, X.blt, X.fsd, fun f' m' hm' => ?_⟩, passes_of rfl, rfl, rfl, sc.kind, X.exc, X.xm, X.xi⟩ e5.2
        · have := hr.un
          show (A.deeper _).units + 65 < cLine
          omega
        · obtain ⟨st', a', fd', q1, q2, q3, q4, q5⟩ := (X.defs f' m' hm').ex
          exact ⟨a', fd', q1, q2, .all q4, def_fn X k f' m' hm' st' a' fd' q1 q3 q5⟩
      · have ex : call T (k + 1) f ys w.S = (match T.defs f with | none => .stuck | some m => if ys.length = m.np then fin w.S.length m.fr (evSs T.gl (call T k) T.fr T.xm T.xi m.body (args0 m ys) w.S) else .stuck) := rfl
        rw [ex, hm] at o
        by_cases hl : ys.length = m.np
        · simp only [if_pos hl] at o
          rw [hfr] at o
          exact fin_out rfl o
        · simp only [if_neg hl] at o
          exact o.elim
/-! ### the law -/
def spLaw (K : PySem.W.Frag) : Sp := fun vs H Q _ => ∃ (a : Addr) (ns : List Int), vs = [.ref a] ∧ Lck K H a (ns.map V.int) ∧ ns.length ≤ 63 ∧ ∀ H', Q (.bl true) H'
theorem law_ok {T : Tab} {fs xs : Str → Bool} {P : Program} {wd : World} {k : Nat} {m : MDef} (X : TabTxt T fs xs K mg) (hm : T.defs "law" = some m) (hN : m.N.take m.np = (["script"] : List Str))
    (law : ∀ ns : List Int, ns.length ≤ 63 → call T k "law" [.scr ns] [] = .ok (.d (.bool true)) []) :
    ∃ (a : Addr) (fd : FuncData), mg "law" = some (.ref a) ∧ (∀ (s : Shared) (u : Value), BindsTo s fd ⟨[u], []⟩ [("script", u)]) ∧ ∀ base : Heap, FnOk P wd K mg base (L2.CX P wd) k a fd (["script"] : List Str) (spLaw K) := by
  obtain ⟨st, a, fd, e1, e2, e3, e4, e5⟩ := (X.defs "law" m hm).ex
  refine ⟨a, fd, e1, fun s u => .of_eq ?_, fun base => ?_⟩
  · have := e4 [u] (by rw [hN]; rfl)
    rw [hN] at this
    exact this
  · have F := def_fn (P := P) (wd := wd) (base := base) X k "law" m hm st a fd e1 e3 e5
    rw [hN] at F
    refine F.imp fun vs H Q E h => ?_
    obtain ⟨b, ns, h1, h2, h3, h4⟩ := h
    refine ⟨⟨fun _ => 0, [], fun _ => False⟩, [.scr ns], ⟨fun n c e => by simp at e, fun i j hi => by simp at hi, fun a ha => ha.elim⟩, ⟨_, [], h1, ⟨b, rfl, h2⟩, rfl⟩, ?_⟩
    rw [law ns h3]
    intro w' H' _ _ v rf
    have := rf.1
    simp only [RepV, RepD] at this
    subst this
    exact h4 H'
theorem walk {l : PySem.W.OpenLaw} {q : Program} {loose : List Str} {XP : (Str → Option Value) → Heap → Prop} {YP : World → Heap → Prop} {d : DefRec} {Kf : Params → PySem.W.Frag} {T : Tab} {k : Nat} (hn : l.most = some 63) (hdf : d.params.defaults = []) (hr : Room k callerA) (hd : d.name = "law")
    (hY : ∀ (w : World) (h : Heap), YP w h → (Kf w.params).In h) {m : MDef} (hm : T.defs "law" = some m) (hN : m.N.take m.np = (["script"] : List Str))
    (law : ∀ ns : List Int, ns.length ≤ 63 → call T k "law" [.scr ns] [] = .ok (.d (.bool true)) [])
    (F : ∀ (w : World) (mg : Str → Option Value) (h : Heap), (Kf w.params).In h → h.Ns mainGlobals mg → ∃ fs xs, TabTxt T fs xs (Kf w.params) mg) :
    PySem.W.WalkO q loose XP YP l.row.toRowW d [] (fun f vs => PySem.call f vs) := by
  refine L2.walk_of (n := 63) (k := k) (x := "script") (K := Kf) (CX := fun w => L2.CX l.prog w) (sp := fun w => spLaw (Kf w.params)) hn (by decide) hdf hr hY (fun w mg fa h KX G hmg => ?_) (fun w H a ns hl hO hS => ?_) fun w H s e s' z => ?_
  · obtain ⟨fs, xs, X⟩ := F w mg h KX G
    obtain ⟨a, fd, e1, e2, e3⟩ := law_ok (P := l.prog) (wd := w) (k := k) X hm hN law
    rw [hd, e1] at hmg
    cases hmg
    exact ⟨fd, e2, fun base _ _ => e3 base⟩
  · refine ⟨a, ns, rfl, ?_, hl, fun _ => rfl⟩
    rcases hS with (z | ⟨o, z⟩) | z
    · rcases hO a with y | ⟨o, xs, y⟩
      · rw [y] at z; cases z
      · rw [y] at z; cases z
    · exact .inl ⟨o, z⟩
    · exact .inr z
  · obtain ⟨_, _, _, _, _, _, _, _, _, _, _, _, z⟩ := z
    exact z.elim
end
end Rf
/-! From a law's facts to its table. -/
namespace Rf
open PySem PySem.Spec PyProof.Rows L2
/-! a constant of the written part, read -/
mutual
def glOk (K : PySem.W.Frag) : Nat → D → Value → Bool
  | _, .none, .none => true
  | _, .bool a, .bool b => a == b
  | _, .int i, .int j _ => i == j
  | _, .str s, .str t _ => s == t
  | n + 1, .tuple xs, .ref a => match K.lookup a with
    | some o => match o.data with
      | .seq its _ => (o.cls == .type "tuple") && decide (its.size ≤ sizeLine) && glsOk K n xs its.toList
      | _ => false
    | none => false
  | _, _, _ => false
def glsOk (K : PySem.W.Frag) : Nat → List D → List Value → Bool
  | _, [], [] => true
  | n, x :: xs, u :: us => glOk K n x u && glsOk K n xs us
  | _, _, _ => false
end
section
variable {K : PySem.W.Frag} {mg : Str → Option Value}
mutual
theorem glOk_rep : ∀ {n : Nat} {d : D} {u : Value}, glOk K n d u = true → ∃ y : V, RelV y u ∧ ∀ (w : Wd) (H : Hp), RepD K w H d y
  | _, .none, u, h => by
    cases u <;> first | (simp [glOk] at h; done) | exact ⟨.non, rfl, fun _ _ => by simp [RepD]⟩
  | _, .bool a, u, h => by
    cases u <;> first | (simp [glOk] at h; done) | skip
    simp only [glOk, beq_iff_eq] at h
    subst h
    exact ⟨.bl a, rfl, fun _ _ => by simp [RepD]⟩
  | _, .int a, u, h => by
    cases u <;> first | (simp [glOk] at h; done) | skip
    simp only [glOk, beq_iff_eq] at h
    subst h
    exact ⟨.int a, ⟨_, rfl⟩, fun _ _ => by simp [RepD]⟩
  | _, .str a, u, h => by
    cases u <;> first | (simp [glOk] at h; done) | skip
    simp only [glOk, beq_iff_eq] at h
    subst h
    exact ⟨.str a, ⟨_, rfl⟩, fun _ _ => by simp [RepD]⟩
  | 0, .tuple xs, u, h => by cases u <;> simp [glOk] at h
  | n + 1, .tuple xs, u, h => by
    cases u <;> first | (simp [glOk] at h; done) | skip
    rename_i a
    unfold glOk at h
    split at h
    · rename_i o ho
      split at h
      · rename_i its k hd
        simp only [Bool.and_eq_true, beq_iff_eq, decide_eq_true_eq] at h
        obtain ⟨⟨h1, h2⟩, h3⟩ := h
        obtain ⟨vs, hv, hr⟩ := glsOk_rep h3
        exact ⟨.ref a, rfl, fun w H => by
          unfold RepD
          exact ⟨a, vs, rfl, .inr ⟨o, its, k, ho, h1, hd, h2, hv⟩, hr w H⟩⟩
      · cases h
    · cases h
  | _, .list _, u, h => by cases u <;> simp [glOk] at h
  | _, .dict _, u, h => by cases u <;> simp [glOk] at h
theorem glsOk_rep : ∀ {n : Nat} {ds : List D} {us : List Value}, glsOk K n ds us = true → ∃ vs : List V, Vals vs us ∧ ∀ (w : Wd) (H : Hp), RepDs K w H ds vs
  | _, [], us, h => by
    cases us with
    | nil => exact ⟨[], .nil, fun _ _ => by simp [RepDs]⟩
    | cons _ _ => simp [glsOk] at h
  | n, d :: ds, us, h => by
    cases us with
    | nil => simp [glsOk] at h
    | cons u us =>
      simp only [glsOk, Bool.and_eq_true] at h
      obtain ⟨y, h1, h2⟩ := glOk_rep h.1
      obtain ⟨ys, h3, h4⟩ := glsOk_rep h.2
      exact ⟨y :: ys, .cons h1 h3, fun w H => by simp only [RepDs]; exact ⟨y, ys, rfl, h2 w H, h4 w H⟩⟩
end
theorem find_mem {A B : Type} [BEq A] [LawfulBEq A] {l : List (A × B)} {x : A} {y : B} (h : (l.find? (·.1 == x)).map (·.2) = some y) : (x, y) ∈ l := by
  cases e : l.find? (·.1 == x) with
  | none => rw [e] at h; cases h
  | some p =>
    rw [e] at h
    simp only [Option.map_some, Option.some.injEq] at h
    have h1 := List.mem_of_find?_eq_some e
    have h2 := List.find?_some e
    simp only [beq_iff_eq] at h2
    obtain ⟨a, b⟩ := p
    simp only at h h2
    subst h h2
    exact h1
theorem gl_of {l : List (Str × D)} (h : ∀ p ∈ l, ∃ u : Value, mg p.1 = some u ∧ glOk K 40 p.2 u = true) : ∀ (x : Str) (v : Val), ((l.find? (·.1 == x)).map (·.2)).map Val.d = some v → ∃ (u : Value) (y : V), mg x = some u ∧ RelV y u ∧ ∀ (w : Wd) (H : Hp), Good K w H → RepV K mg w H v y := by
  intro x v e
  rw [Option.map_eq_some_iff] at e
  obtain ⟨d, e1, e2⟩ := e
  subst e2
  obtain ⟨u, h1, h2⟩ := h _ (find_mem e1)
  obtain ⟨y, h3, h4⟩ := glOk_rep h2
  exact ⟨u, y, h1, h3, fun w H _ => h4 w H⟩
theorem fs_of (l : List (Str × MDef)) : ∀ f, l.any (·.1 == f) = true → ∃ m, (l.find? (·.1 == f)).map (·.2) = some m := by
  intro f h
  cases e : l.find? (·.1 == f) with
  | some p => exact ⟨p.2, rfl⟩
  | none =>
    rw [List.find?_eq_none] at e
    rw [List.any_eq_true] at h
    obtain ⟨p, h1, h2⟩ := h
    exact absurd h2 (e p h1)
theorem defs_of {fs xs : Str → Bool} {l : List (Str × MDef)} (h : ∀ p ∈ l, ∃ (st : Stmt) (a : Addr) (fd : FuncData), mg p.1 = some (.ref a) ∧ PySem.W.keepIn K (.ref a) = true ∧ Fun K p.1 p.1 st a fd ∧ (∀ us : List Value, us.length = (p.2.N.take p.2.np).length → bindArgs fd ⟨us, []⟩ = pure ((p.2.N.take p.2.np).zip us)) ∧ okDef fs xs p.2 st = true) :
    ∀ f m, (l.find? (·.1 == f)).map (·.2) = some m → DefTxt fs xs K mg f m := fun f m e => ⟨h (f, m) (find_mem e)⟩
theorem pair_of {l : List ((Str × Str) × Bool)} (h : ∀ p ∈ l, ∀ C1 C2, mg p.1.1 = some (.ref C1) → mg p.1.2 = some (.ref C2) → PySem.W.exmOne K (.ref C1) (.ref C2) = some p.2) :
    ∀ x y b, (l.find? (·.1 == (x, y))).map (·.2) = some b → ∀ C1 C2, mg x = some (.ref C1) → mg y = some (.ref C2) → PySem.W.exmOne K (.ref C1) (.ref C2) = some b := fun x y b e => h ((x, y), b) (find_mem e)
theorem ref2 {x y : Str} {A B C1 C2 : Addr} {b : Bool} (h1 : mg x = some (.ref A)) (h2 : mg y = some (.ref B)) (e1 : mg x = some (.ref C1)) (e2 : mg y = some (.ref C2)) (h : PySem.W.exmOne K (.ref A) (.ref B) = some b) : PySem.W.exmOne K (.ref C1) (.ref C2) = some b := by
  rw [h1] at e1
  rw [h2] at e2
  cases e1
  cases e2
  exact h
theorem pairI_of {l : List ((Str × Str) × Bool)} (h : ∀ p ∈ l, ∀ D, mg p.1.1 = some (.ref D) → ExcC K D ∧ ∃ cv, ClsN mg p.1.2 cv ∧ PySem.W.kitOne K (.ref D) cv = some p.2) :
    ∀ x y b, (l.find? (·.1 == (x, y))).map (·.2) = some b → ∀ D, mg x = some (.ref D) → ExcC K D ∧ ∃ cv, ClsN mg y cv ∧ PySem.W.kitOne K (.ref D) cv = some b := fun x y b e => h ((x, y), b) (find_mem e)
theorem refI {x y : Str} {A D : Addr} {cv : Value} {b : Bool} (h1 : mg x = some (.ref A)) (e1 : mg x = some (.ref D)) (hC : ExcC K A) (hn : ClsN mg y cv) (h : PySem.W.kitOne K (.ref A) cv = some b) : ExcC K D ∧ ∃ cv, ClsN mg y cv ∧ PySem.W.kitOne K (.ref D) cv = some b := by
  rw [h1] at e1
  cases e1
  exact ⟨hC, cv, hn, h⟩
def excCB (K : PySem.W.Frag) (D : Addr) : Bool := decide (PySem.W.findIn K (.ref D) "__getattribute__" = some (some (.builtin "BaseException.__getattribute__"))) && (decide (PySem.W.findIn K (.ref D) "__getattr__" = some none) && (decide (PySem.W.subIn K (.ref D) (.type "BaseException") = some true) && (PySem.W.hasDictIn K D &&
  (decide (PySem.W.findIn K (.ref D) "__class__" = some (some (.builtin "object.__class__"))) && (decide (PySem.W.specialIn K (.builtin "object.__class__") "__get__" = some (some (.builtin "getset_descriptor.__get__"))) && (decide (PySem.W.takesIn K (.builtin "object.__class__") = some true) && decide (PySem.W.mroIn K D (.type "object") = some true)))))))
theorem excC_of {D : Addr} (h : excCB K D = true) : ExcC K D := by
  unfold excCB at h
  simp only [Bool.and_eq_true, decide_eq_true_eq] at h
  obtain ⟨h1, h2, h3, h4, h5, h6, h7, h8⟩ := h
  exact ⟨h1, h2, h3, h4, h5, h6, h7, h8⟩
theorem excC_mk {D : Addr} (h1 : PySem.W.findIn K (.ref D) "__getattribute__" = some (some (.builtin "BaseException.__getattribute__"))) (h2 : PySem.W.findIn K (.ref D) "__getattr__" = some none) (h3 : PySem.W.subIn K (.ref D) (.type "BaseException") = some true) (h4 : PySem.W.hasDictIn K D = true)
    (h5 : PySem.W.findIn K (.ref D) "__class__" = some (some (.builtin "object.__class__"))) (h6 : PySem.W.specialIn K (.builtin "object.__class__") "__get__" = some (some (.builtin "getset_descriptor.__get__"))) (h7 : PySem.W.takesIn K (.builtin "object.__class__") = some true) (h8 : PySem.W.mroIn K D (.type "object") = some true) : ExcC K D :=
  ⟨h1, h2, h3, h4, h5, h6, h7, h8⟩
theorem kit_ref {C D : Addr} {b : Bool} (hne : (D == C && !b) = false) (hdct : PySem.W.hasDictIn K C = true) (ht : PySem.W.typeIn K (.ref C) = some (.type "type")) (h4 : PySem.W.subIn K (.ref D) (.ref C) = some b) : PySem.W.kitOne K (.ref D) (.ref C) = some b := by
  unfold PySem.W.kitOne
  by_cases e : D = C
  · subst e
    rw [if_pos (by simp)]
    cases b with
    | true => rfl
    | false => simp at hne
  · rw [if_neg (by simpa using e)]
    obtain ⟨cd, hc, _⟩ := PySem.W.any_some hdct
    have e2 : ((PySem.W.clsIn K C).isSome && PySem.W.typeIn K (.ref C) == some (.type "type")) = true := by rw [hc, ht] <;> rfl
    unfold PySem.W.kitCls
    simp only
    rw [if_pos e2]
    exact h4
theorem kit_VE {D : Addr} {b : Bool} (h4 : PySem.W.subIn K (.ref D) (.type "ValueError") = some b) : PySem.W.kitOne K (.ref D) (.type "ValueError") = some b := by
  unfold PySem.W.kitOne
  rw [if_neg (by simp)]
  unfold PySem.W.kitCls
  simp only
  rw [if_pos (by decide +kernel)]
  exact h4
end
end Rf
/-! The evaluator as rules for simp. -/
namespace Rf
open PySem
section
variable {G : Glob} {C : Calls} {r : Env} {S : Store} {fr : Str → Bool} {xm xi : Exm}
@[simp] theorem x_var {i : Nat} : evE G C (.var i) r S = (match r[i]? with | some (some v) => .ok v S | _ => .stuck) := by rw [evE] <;> rfl
@[simp] theorem x_int {i : Int} : evE G C (.cint i) r S = .ok (.d (.int i)) S := by rw [evE] <;> rfl
@[simp] theorem x_str {s : Str} : evE G C (.cstr s) r S = .ok (.d (.str s)) S := by rw [evE] <;> rfl
@[simp] theorem x_bl {b : Bool} : evE G C (.cbl b) r S = .ok (.d (.bool b)) S := by rw [evE] <;> rfl
@[simp] theorem x_non : evE G C .cnon r S = .ok (.d .none) S := by rw [evE] <;> rfl
@[simp] theorem x_gl {x : Str} : evE G C (.gl x) r S = (match G x with | some v => .ok v S | none => .stuck) := by rw [evE] <;> rfl
@[simp] theorem x_tup {es : MEs} : evE G C (.tup es) r S = (evEs G C es r S).bind fun vs S1 => match keeps vs with
    | some xs => if xs.length ≤ lim then .ok (.d (.tuple xs)) S1 else .stuck
    | none => .stuck := by rw [evE] <;> rfl
@[simp] theorem x_lst {es : MEs} : evE G C (.lst es) r S = (evEs G C es r S).bind fun vs S1 => match keeps vs with
    | some xs => if xs.length ≤ lim then .ok (.d (.list xs)) S1 else .stuck
    | none => .stuck := by rw [evE] <;> rfl
@[simp] theorem x_bin {op : Operator} {a b : ME} : evE G C (.bin op a b) r S = (evE G C a r S).bind fun x S1 => (evE G C b r S1).bind fun y S2 => match der S2 x, der S2 y with
    | some dx, some dy => Res.lift ((binD op dx dy).map Val.d) S2
    | _, _ => .stuck := by rw [evE] <;> rfl
@[simp] theorem x_neg {a : ME} : evE G C (.neg a) r S = (evE G C a r S).bind fun x S1 => match x with
    | .d (.int i) => .ok (.d (.int (-i))) S1
    | _ => .stuck := by rw [evE] <;> rfl
@[simp] theorem x_not {a : ME} : evE G C (.not a) r S = (evE G C a r S).bind fun x S1 => match tru S1 x with
    | some b => .ok (.d (.bool (!b))) S1
    | none => .stuck := by rw [evE] <;> rfl
@[simp] theorem x_and {a b : ME} : evE G C (.and a b) r S = (evE G C a r S).bind fun x S1 => match tru S1 x with
    | some true => evE G C b r S1
    | some false => .ok x S1
    | none => .stuck := by rw [evE] <;> rfl
@[simp] theorem x_or {a b : ME} : evE G C (.or a b) r S = (evE G C a r S).bind fun x S1 => match tru S1 x with
    | some true => .ok x S1
    | some false => evE G C b r S1
    | none => .stuck := by rw [evE] <;> rfl
@[simp] theorem x_cmp {op : CmpOp} {a b : ME} : evE G C (.cmp op a b) r S = (evE G C a r S).bind fun x S1 => (evE G C b r S1).bind fun y S2 => match der S2 x, der S2 y with
    | some dx, some dy => Res.lift ((cmpD op dx dy).map fun b => Val.d (.bool b)) S2
    | _, _ => .stuck := by rw [evE] <;> rfl
@[simp] theorem x_cmp2 {op op' : CmpOp} {a b c : ME} : evE G C (.cmp2 op op' a b c) r S = (evE G C a r S).bind fun x S1 => (evE G C b r S1).bind fun y S2 => match der S2 x, der S2 y with
    | some dx, some dy => match cmpD op dx dy with
      | some true => (evE G C c r S2).bind fun z S3 => match der S3 y, der S3 z with
        | some dy, some dz => Res.lift ((cmpD op' dy dz).map fun b => Val.d (.bool b)) S3
        | _, _ => .stuck
      | some false => .ok (.d (.bool false)) S2
      | none => .stuck
    | _, _ => .stuck := by rw [evE] <;> rfl
@[simp] theorem x_ife {c a b : ME} : evE G C (.ife c a b) r S = (evE G C c r S).bind fun x S1 => match tru S1 x with
    | some true => evE G C a r S1
    | some false => evE G C b r S1
    | none => .stuck := by rw [evE] <;> rfl
@[simp] theorem x_call {f : Str} {es : MEs} : evE G C (.call f es) r S = (evEs G C es r S).bind fun vs S1 => C f vs S1 := by rw [evE] <;> rfl
@[simp] theorem x_blt {b : Blt} {es : MEs} : evE G C (.blt b es) r S = (evEs G C es r S).bind fun vs S1 => match ders S1 vs with
    | some xs => Res.lift ((bltD b xs).map Val.d) S1
    | none => .stuck := by rw [evE] <;> rfl
@[simp] theorem x_isi {a : ME} {ts : List String} : evE G C (.isi a ts) r S = (evE G C a r S).bind fun x S1 => match der S1 x with
    | some d => .ok (.d (.bool (ts.any (isiD d)))) S1
    | none => .stuck := by rw [evE] <;> rfl
@[simp] theorem x_isi1 {a : ME} {t : String} : evE G C (.isi1 a t) r S = (evE G C a r S).bind fun x S1 => match der S1 x with
    | some d => .ok (.d (.bool (isiD d t))) S1
    | none => .stuck := by rw [evE] <;> rfl
@[simp] theorem x_idx {a i : ME} : evE G C (.idx a i) r S = (evE G C a r S).bind fun x S1 => (evE G C i r S1).bind fun y S2 => match der S2 x, y with
    | some dx, .d (.int k) => Res.lift ((idxD dx k).map Val.d) S2
    | _, _ => .stuck := by rw [evE] <;> rfl
@[simp] theorem x_slc {a : ME} {lo hi : MEo} : evE G C (.slc a lo hi) r S = (evE G C a r S).bind fun x S1 => (evO G C lo r S1).bind fun l S2 => (evO G C hi r S2).bind fun h S3 => match der S3 x with
    | some dx => Res.lift ((slcD dx l h).map Val.d) S3
    | none => .stuck := by rw [evE] <;> rfl
@[simp] theorem x_rev {a : ME} : evE G C (.rev a) r S = (evE G C a r S).bind fun x S1 => match der S1 x with
    | some (.list xs) => .ok (.d (.list xs.reverse)) S1
    | _ => .stuck := by rw [evE] <;> rfl
@[simp] theorem x_nil : evEs G C .nil r S = .ok [] S := by rw [evEs] <;> rfl
@[simp] theorem x_cons {e : ME} {es : MEs} : evEs G C (.cons e es) r S = (evE G C e r S).bind fun v S1 => (evEs G C es r S1).bind fun vs S2 => .ok (v :: vs) S2 := by rw [evEs] <;> rfl
@[simp] theorem x_o0 : evO G C .none r S = .ok none S := by rw [evO] <;> rfl
@[simp] theorem x_o1 {e : ME} : evO G C (.some e) r S = (evE G C e r S).bind fun v S1 => match v with
    | .d (.int i) => .ok (some i) S1
    | _ => .stuck := by rw [evO] <;> rfl
@[simp] theorem x_over {e : ME} : evI G C (.over e) r S = (evE G C e r S).bind fun v S1 => match seqD S1 v with
    | some xs => .ok ⟨xs, srcOf S1 v⟩ S1
    | none => .stuck := by rw [evI] <;> rfl
@[simp] theorem x_rng1 {a : ME} : evI G C (.rng1 a) r S = (evE G C a r S).bind fun v S1 => match v with
    | .d (.int i) => if -100000000 ≤ i ∧ i ≤ 100000000 then .ok ⟨upto 0 i.toNat, []⟩ S1 else .stuck
    | _ => .stuck := by rw [evI] <;> rfl
@[simp] theorem x_rng2 {a b : ME} : evI G C (.rng2 a b) r S = (evE G C a r S).bind fun v S1 => (evE G C b r S1).bind fun u S2 => match v, u with
    | .d (.int i), .d (.int j) => if (-100000000 ≤ i ∧ i ≤ 100000000) ∧ -100000000 ≤ j ∧ j ≤ 100000000 then .ok ⟨upto i (j - i).toNat, []⟩ S2 else .stuck
    | _, _ => .stuck := by rw [evI] <;> rfl
@[simp] theorem x_enm {e : ME} : evI G C (.enm e) r S = (evE G C e r S).bind fun v S1 => match der S1 v with
    | some (.list xs) => .ok ⟨enumD 0 xs, srcOf S1 v⟩ S1
    | some (.tuple xs) => .ok ⟨enumD 0 xs, srcOf S1 v⟩ S1
    | _ => .stuck := by rw [evI] <;> rfl
@[simp] theorem x_zip {a b : ME} : evI G C (.zip a b) r S = (evE G C a r S).bind fun v S1 => (evE G C b r S1).bind fun u S2 => match der S2 v, der S2 u with
    | some (.list xs), some (.list ys) => .ok ⟨zipD xs ys, srcOf S2 v ++ srcOf S2 u⟩ S2
    | some (.tuple xs), some (.tuple ys) => .ok ⟨zipD xs ys, srcOf S2 v ++ srcOf S2 u⟩ S2
    | _, _ => .stuck := by rw [evI] <;> rfl
@[simp] theorem x_snil : evSs G C fr xm xi .nil r S = .next r S := by rw [evSs] <;> rfl
@[simp] theorem x_scons {s : MS} {ss : MSs} : evSs G C fr xm xi (.cons s ss) r S = (evS G C fr xm xi s r S).seq fun r1 S1 => evSs G C fr xm xi ss r1 S1 := by rw [evSs] <;> rfl
@[simp] theorem s_asg {i : Nat} {e : ME} : evS G C fr xm xi (.asg i e) r S = SR.of r (evE G C e r S) fun v S1 => .next (r.set i (some v)) S1 := by rw [evS] <;> rfl
@[simp] theorem s_asgN {i : Nat} {e : ME} : evS G C fr xm xi (.asgN i e) r S = if isFr fr e then SR.of r (evE G C e r S) fun v S1 => match v with
      | .d (.list xs) => .next (r.set i (some (.loc S1.length))) (S1 ++ [.lst xs])
      | _ => .stuck
    else .stuck := by rw [evS] <;> rfl
@[simp] theorem s_asgT {t : Tgt} {e : ME} : evS G C fr xm xi (.asgT t e) r S = SR.of r (evE G C e r S) fun v S1 => match v with
    | .d x => match bindT t x r with
      | some r1 => .next r1 S1
      | none => .stuck
    | _ => .stuck := by rw [evS] <;> rfl
@[simp] theorem s_asg2 {i j : Nat} {a b : ME} : evS G C fr xm xi (.asg2 i j a b) r S = SR.of r (evE G C a r S) fun v S1 => SR.of r (evE G C b r S1) fun u S2 => .next ((r.set i (some v)).set j (some u)) S2 := by rw [evS] <;> rfl
@[simp] theorem s_asg3 {i j k : Nat} {a b e : ME} : evS G C fr xm xi (.asg3 i j k a b e) r S = SR.of r (evE G C a r S) fun v S1 => SR.of r (evE G C b r S1) fun u S2 => SR.of r (evE G C e r S2) fun z S3 => .next (((r.set i (some v)).set j (some u)).set k (some z)) S3 := by rw [evS] <;> rfl
@[simp] theorem s_aug {i : Nat} {op : Operator} {e : ME} : evS G C fr xm xi (.aug i op e) r S = (match r[i]? with
    | some (some (.d (.int a))) => SR.of r (evE G C e r S) fun v S1 => match v with
      | .d (.int b) => match augI op a b with
        | some z => .next (r.set i (some (.d (.int z)))) S1
        | none => .stuck
      | _ => .stuck
    | _ => .stuck) := by rw [evS] <;> rfl
@[simp] theorem s_setI {x : Nat} {i e : ME} : evS G C fr xm xi (.setI x i e) r S = SR.of r (evE G C e r S) fun v S1 => match r[x]? with
    | some (some (.loc n)) => SR.of r (evE G C i r S1) fun k S2 => match v, k, S2[n]? with
      | .d y, .d (.int z), some (.lst xs) => match L2.ixN xs.length z with
        | some j => .next r (S2.set n (.lst (xs.set j y)))
        | none => .stuck
      | _, _, _ => .stuck
    | _ => .stuck := by rw [evS] <;> rfl
@[simp] theorem s_app {x : Nat} {e : ME} : evS G C fr xm xi (.app x e) r S = (match r[x]? with
    | some (some (.loc n)) => SR.of r (evE G C e r S) fun v S1 => match v, S1[n]? with
      | .d y, some (.lst xs) => if xs.length < lim then .next r (S1.set n (.lst (xs ++ [y]))) else .stuck
      | _, _ => .stuck
    | _ => .stuck) := by rw [evS] <;> rfl
@[simp] theorem s_ife {c : ME} {a b : MSs} : evS G C fr xm xi (.ife c a b) r S = SR.of r (evE G C c r S) fun v S1 => match tru S1 v with
    | some true => evSs G C fr xm xi a r S1
    | some false => evSs G C fr xm xi b r S1
    | none => .stuck := by rw [evS] <;> rfl
theorem s_whl {c : ME} {b : MSs} : evS G C fr xm xi (.whl c b) r S = whlLoop (evE G C c) S.length (evSs G C fr xm xi b) fuel r S := by rw [evS] <;> rfl
theorem s_for {t : Tgt} {it : MI} {b : MSs} : evS G C fr xm xi (.for_ t it b) r S = SR.of r (evI G C it r S) fun w S1 => forLoop w t S1.length (evSs G C fr xm xi b) w.items r S1 := by rw [evS] <;> rfl
@[simp] theorem s_ret {e : ME} : evS G C fr xm xi (.ret e) r S = SR.of r (evE G C e r S) fun v S1 => .ret v (isFr fr e) S1 := by rw [evS] <;> rfl
@[simp] theorem s_retN : evS G C fr xm xi .retN r S = .ret (.d .none) false S := by rw [evS] <;> rfl
@[simp] theorem s_drop {e : ME} : evS G C fr xm xi (.drop e) r S = SR.of r (evE G C e r S) fun _ S1 => .next r S1 := by rw [evS] <;> rfl
@[simp] theorem s_rais {c m : Str} : evS G C fr xm xi (.rais c m) r S = .err ⟨c, none⟩ r S := by rw [evS] <;> rfl
@[simp] theorem s_pass : evS G C fr xm xi .pass r S = .next r S := by rw [evS] <;> rfl
@[simp] theorem s_brk : evS G C fr xm xi .brk r S = .brk r S := by rw [evS] <;> rfl
@[simp] theorem s_cont : evS G C fr xm xi .cont r S = .cont r S := by rw [evS] <;> rfl
end
@[simp] theorem der_d {S : Store} {x : D} : der S (.d x) = some x := rfl
@[simp] theorem keep_d {x : D} : keep (.d x) = some x := rfl
@[simp] theorem keeps_nil : keeps [] = some [] := rfl
@[simp] theorem keeps_cons {v : Val} {r : List Val} : keeps (v :: r) = (match keep v, keeps r with | some x, some xs => some (x :: xs) | _, _ => none) := rfl
@[simp] theorem ders_nil {S : Store} : ders S [] = some [] := rfl
@[simp] theorem ders_cons {S : Store} {v : Val} {r : List Val} : ders S (v :: r) = (match der S v, ders S r with | some x, some xs => some (x :: xs) | _, _ => none) := rfl
@[simp] theorem tru_d {S : Store} {x : D} : tru S (.d x) = truD x := rfl
@[simp] theorem truD_bool {b : Bool} : truD (.bool b) = some b := rfl
@[simp] theorem truD_int {b : Int} : truD (.int b) = some (b != 0) := rfl
@[simp] theorem truD_none : truD .none = some false := rfl
@[simp] theorem add_int {a b : Int} : binD .Add (.int a) (.int b) = some (.int (a + b)) := rfl
@[simp] theorem sub_int {a b : Int} : binD .Sub (.int a) (.int b) = some (.int (a - b)) := rfl
theorem mul_int {a b : Int} (h : a.natAbs.log2 + b.natAbs.log2 < 1000000) : binD .Mult (.int a) (.int b) = some (.int (a * b)) := by simp [binD, h]
theorem fdiv_int {a b : Int} (h : b ≠ 0) (h2 : b.natAbs.log2 < 9000) : binD .FloorDiv (.int a) (.int b) = some (.int (a.fdiv b)) := by simp [binD, h, h2]
theorem mod_int {a b : Int} (h : b ≠ 0) : binD .Mod (.int a) (.int b) = some (.int (a.fmod b)) := by simp [binD, h]
@[simp] theorem lt_int {a b : Int} : cmpD .Lt (.int a) (.int b) = some (decide (a < b)) := rfl
@[simp] theorem le_int {a b : Int} : cmpD .LtE (.int a) (.int b) = some (decide (a ≤ b)) := rfl
@[simp] theorem gt_int {a b : Int} : cmpD .Gt (.int a) (.int b) = some (decide (b < a)) := rfl
@[simp] theorem ge_int {a b : Int} : cmpD .GtE (.int a) (.int b) = some (decide (b ≤ a)) := rfl
@[simp] theorem abs_int {a : Int} : bltD .abs [.int a] = some (.int (if a < 0 then -a else a)) := rfl
@[simp] theorem int_int {a : Int} : bltD .int [.int a] = some (.int a) := rfl
@[simp] theorem len_list {xs : List D} : bltD .len [.list xs] = some (.int xs.length) := rfl
@[simp] theorem len_tuple {xs : List D} : bltD .len [.tuple xs] = some (.int xs.length) := rfl
theorem abs_eq {a : Int} : (if a < 0 then -a else a) = a.natAbs := by split <;> omega
theorem eqv_int {a b : Int} : PyData.eqv (.int a) (.int b) = decide (a = b) := by
  simp only [PyData.eqv]
  rfl
@[simp] theorem shp_int {a : Int} : shp (.int a) = true := rfl
@[simp] theorem eq_int {a b : Int} : cmpD .Eq (.int a) (.int b) = some (decide (a = b)) := by simp [cmpD, eqv_int]
@[simp] theorem ne_int {a b : Int} : cmpD .NotEq (.int a) (.int b) = some (!decide (a = b)) := by simp [cmpD, eqv_int]
@[simp] theorem fin_ret {n : Nat} {x : D} {b : Bool} {S : Store} : fin n false (.ret (.d x) b S) = .ok (.d x) (S.take n) := by simp [fin, hand]
@[simp] theorem fin_next {n : Nat} {r : Env} {S : Store} : fin n false (.next r S) = .ok (.d .none) (S.take n) := by simp [fin]
@[simp] theorem fin_err {n : Nat} {b : Bool} {e : Exn} {r : Env} {S : Store} : fin n b (.err e r S) = .err e (S.take n) := by simp [fin]
theorem call_eq {T : Tab} {k : Nat} {f : Str} {m : MDef} {vs : List Val} {S : Store} (h : T.defs f = some m) (hl : vs.length = m.np) : call T (k + 1) f vs S = fin S.length m.fr (evSs T.gl (call T k) T.fr T.xm T.xi m.body (args0 m vs) S) := by
  show (match T.defs f with | none => (Res.stuck : Res Val) | some m => if vs.length = m.np then fin S.length m.fr (evSs T.gl (call T k) T.fr T.xm T.xi m.body (args0 m vs) S) else .stuck) = _
  rw [h]
  simp only [if_pos hl]
/-! ### loops -/
/-- a while loop by an invariant with a number that falls -/
theorem whl_ok {c : Env → Store → Res Val} {n : Nat} {b : Env → Store → SR} (I : Nat → Env → Store → Prop) (Q : Env → Store → Prop)
    (h : ∀ m r S, I m r S → ∃ v S1, c r S = .ok v S1 ∧ ((tru S1 v = some false ∧ Q (gcE n r) (S1.take n)) ∨ (tru S1 v = some true ∧ ∃ r2 S2, b r S1 = .next r2 S2 ∧ ∃ m', m' < m ∧ I m' (gcE n r2) (S2.take n)))) :
    ∀ (f m : Nat) (r : Env) (S : Store), m < f → I m r S → ∃ r' S', whlLoop c n b f r S = .next r' S' ∧ Q r' S'
  | 0, m, r, S, hm, _ => absurd hm (Nat.not_lt_zero _)
  | f + 1, m, r, S, hm, i => by
    obtain ⟨v, S1, e1, e2⟩ := h m r S i
    unfold whlLoop
    rw [e1]
    simp only [SR.of_ok]
    rcases e2 with ⟨t, q⟩ | ⟨t, r2, S2, e3, m', hm', i'⟩
    · rw [t]
      exact ⟨_, _, rfl, q⟩
    · rw [t]
      simp only
      rw [e3]
      exact whl_ok I Q h f m' _ _ (by omega) i'
theorem fuel_eq : fuel = 2 ^ 100000 := by unfold fuel; rfl
theorem lt_fuel {m k : Nat} (h : m < 2 ^ k) (hk : k ≤ 100000) : m < fuel := by
  rw [fuel_eq]
  exact Nat.lt_of_lt_of_le h (Nat.pow_le_pow_right (by decide) hk)
theorem log2_lt {n k : Nat} (h : n < 2 ^ k) (hk : k ≠ 0) : n.log2 < k := by
  by_cases z : n = 0
  · subst z
    simp
    omega
  · exact (Nat.log2_lt z).mpr h
/-- a number of few bits -/
def Bd (k : Nat) (a : Int) : Prop := a.natAbs < 2 ^ k
theorem Bd.mono {k l : Nat} {a : Int} (h : Bd k a) (hk : k ≤ l) : Bd l a := Nat.lt_of_lt_of_le h (Nat.pow_le_pow_right (by decide) hk)
theorem Bd.mul {k l : Nat} {a b : Int} (h : Bd k a) (h2 : Bd l b) : Bd (k + l) (a * b) := by
  unfold Bd at *
  rw [Int.natAbs_mul, Nat.pow_add]
  exact Nat.mul_lt_mul'' h h2
theorem Bd.add {k : Nat} {a b : Int} (h : Bd k a) (h2 : Bd k b) : Bd (k + 1) (a + b) := by
  unfold Bd at *
  rw [Nat.pow_succ]
  omega
theorem Bd.sub {k : Nat} {a b : Int} (h : Bd k a) (h2 : Bd k b) : Bd (k + 1) (a - b) := by
  unfold Bd at *
  rw [Nat.pow_succ]
  omega
theorem Bd.neg {k : Nat} {a : Int} (h : Bd k a) : Bd k (-a) := by
  unfold Bd at *
  omega
theorem Bd.log {k : Nat} {a : Int} (h : Bd k a) (hk : k ≠ 0) : a.natAbs.log2 < k := log2_lt h hk
theorem mulB {k l : Nat} {a b : Int} (h : Bd k a) (h2 : Bd l b) (hk : k ≤ 400000) (hl : l ≤ 400000) : binD .Mult (.int a) (.int b) = some (.int (a * b)) := by
  refine mul_int ?_
  have h1 := (h.mono (l := 400000) hk).log (by decide)
  have h3 := (h2.mono (l := 400000) hl).log (by decide)
  omega
theorem fdivB {k : Nat} {a b : Int} (h0 : b ≠ 0) (h : Bd k b) (hk : k ≤ 8999) : binD .FloorDiv (.int a) (.int b) = some (.int (a.fdiv b)) := by
  refine fdiv_int h0 ?_
  have := (h.mono (l := 8999) hk).log (by decide)
  omega
end Rf
/-! Fractions. -/
namespace Lb
open PySem Rf
def m_is_whole : MDef := ⟨1, ["value"], false, (.cons (.ret (.and (.isi1 (.var 0) "int") (.not (.isi1 (.var 0) "bool")))) .nil)⟩
def m_common : MDef := ⟨2, ["a", "b"], false, (.cons 
(.asg2 0 1 (.blt .abs (.cons (.var 0) .nil)) (.blt .abs (.cons (.var 1) .nil))) (.cons 
(.whl (.cmp .NotEq (.var 1) (.cint 0)) (.cons 
(.asg2 0 1 (.var 1) (.bin .Mod (.var 0) (.var 1))) .nil)) (.cons 
(.ret (.var 0)) .nil)))⟩
def m_lowest : MDef := ⟨2, ["n", "d", "g"], false, (.cons 
(.asg 2 (.call "common" (.cons (.var 0) (.cons (.var 1) .nil)))) (.cons 
(.ife (.cmp .Lt (.var 1) (.cint 0)) (.cons 
(.asg 2 (.neg (.var 2))) .nil) .nil) (.cons 
(.ret (.tup (.cons (.bin .FloorDiv (.var 0) (.var 2)) (.cons (.bin .FloorDiv (.var 1) (.var 2)) .nil)))) .nil)))⟩
section
variable {T : Tab} {S : Store}
theorem sp_common (h : T.defs "common" = some m_common) (k : Nat) {a b : Int} {n : Nat} (hb : Bd n b) (hn : n ≤ 100000) : call T (k + 1) "common" [.d (.int a), .d (.int b)] S = .ok (.d (.int (Int.gcd a b))) S := by
  rw [call_eq h rfl]
  have key := whl_ok (c := evE T.gl (call T k) (.cmp .NotEq (.var 1) (.cint 0))) (n := S.length) (b := evSs T.gl (call T k) T.fr T.xm T.xi (.cons (.asg2 0 1 (.var 1) (.bin .Mod (.var 0) (.var 1))) .nil))
    (fun m r S' => S' = S ∧ ∃ x y : Nat, r = [some (.d (.int x)), some (.d (.int y))] ∧ m = y ∧ Nat.gcd x y = Int.gcd a b) (fun r S' => S' = S ∧ ∃ u, r = [some (.d (.int (Int.gcd a b))), u]) (fun m r S' hI => by
      obtain ⟨rfl, x, y, rfl, hm, hg⟩ := hI
      have hm := hm.symm
      subst hm
      refine ⟨.d (.bool (!decide (y = 0))), S', by simp, ?_⟩
      by_cases hy : y = 0
      · subst hy
        refine .inl ⟨by simp, by simp, ?_⟩
        refine ⟨some (.d (.int 0)), ?_⟩
        rw [← hg]
        simp [gcE, killV]
      · refine .inr ⟨by simp [hy], [some (.d (.int y)), some (.d (.int (x % y : Nat)))], S', ?_, x % y, Nat.mod_lt _ (Nat.pos_of_ne_zero hy), by simp, y, x % y, by simp [gcE, killV], rfl, ?_⟩
        · have hy' : (y : Int) ≠ 0 := by omega
          simp [mod_int hy', Int.fmod_eq_emod]
        · rw [← hg, Nat.gcd_comm x y, Nat.gcd_rec y x, Nat.gcd_comm]) fuel b.natAbs [some (.d (.int a.natAbs)), some (.d (.int b.natAbs))] S (lt_fuel hb hn) ⟨rfl, a.natAbs, b.natAbs, rfl, rfl, rfl⟩
  obtain ⟨r', S', e1, e2, u, e3⟩ := key
  subst e2 e3
  simp [m_common, args0, s_whl, abs_eq, e1]

/-- a fraction as the program writes it -/
def fr (q : Rat) : D := .tuple [.int q.num, .int q.den]
def Bq (k : Nat) (q : Rat) : Prop := Bd k q.num ∧ Bd k (q.den : Int)
theorem natAbs_div_le (a b : Int) : (a / b).natAbs ≤ a.natAbs := Int.natAbs_ediv_le_natAbs a b
theorem gcd_ne {n d : Int} (h : d ≠ 0) : (Int.gcd n d : Int) ≠ 0 := by
  have : Int.gcd n d ≠ 0 := fun z => h (Int.gcd_eq_zero_iff.mp z).2
  omega
theorem bdiv {k : Nat} {n d : Int} (hd : d ≠ 0) (h1 : Bd k n) (h2 : Bd k d) : Bq k (Rat.divInt n d) := by
  unfold Bq Bd at *
  rw [Rat.num_divInt, Rat.den_divInt, if_neg hd]
  constructor
  · refine Nat.lt_of_le_of_lt (natAbs_div_le _ _) ?_
    rw [Int.natAbs_mul]
    have : d.sign.natAbs = 1 := Int.natAbs_sign_of_ne_zero hd
    rw [this, Nat.one_mul]
    exact h1
  · rw [Int.natAbs_natCast]
    exact Nat.lt_of_le_of_lt (Nat.div_le_self _ _) h2
theorem Bq.mono {k l : Nat} {q : Rat} (h : Bq k q) (hk : k ≤ l) : Bq l q := ⟨h.1.mono hk, h.2.mono hk⟩
theorem Bq.add {k l : Nat} {p q : Rat} (h : Bq k p) (h2 : Bq l q) : Bq (k + l + 1) (p + q) := by
  rw [← Rat.num_divInt_den p, ← Rat.num_divInt_den q, Rat.divInt_add_divInt _ _ (by have := p.den_nz; omega) (by have := q.den_nz; omega)]
  refine bdiv ?_ ?_ ?_
  · have := p.den_nz
    have := q.den_nz
    exact Int.mul_ne_zero (by omega) (by omega)
  · exact Bd.add (h.1.mul h2.2) (by rw [Nat.add_comm k l]; exact h2.1.mul h.2)
  · exact (h.2.mul h2.2).mono (by omega)
theorem Bq.sub {k l : Nat} {p q : Rat} (h : Bq k p) (h2 : Bq l q) : Bq (k + l + 1) (p - q) := by
  rw [← Rat.num_divInt_den p, ← Rat.num_divInt_den q, Rat.divInt_sub_divInt _ _ (by have := p.den_nz; omega) (by have := q.den_nz; omega)]
  refine bdiv ?_ ?_ ?_
  · have := p.den_nz
    have := q.den_nz
    exact Int.mul_ne_zero (by omega) (by omega)
  · exact Bd.sub (h.1.mul h2.2) (by rw [Nat.add_comm k l]; exact h2.1.mul h.2)
  · exact (h.2.mul h2.2).mono (by omega)
theorem Bq.mul {k l : Nat} {p q : Rat} (h : Bq k p) (h2 : Bq l q) : Bq (k + l) (p * q) := by
  rw [← Rat.num_divInt_den p, ← Rat.num_divInt_den q, Rat.divInt_mul_divInt]
  refine bdiv ?_ (h.1.mul h2.1) (h.2.mul h2.2)
  have := p.den_nz
  have := q.den_nz
  exact Int.mul_ne_zero (by omega) (by omega)
theorem Bq.int {k : Nat} {x : Int} (h : Bd k x) (hk : k ≠ 0) : Bq k (x : Rat) := by
  refine ⟨by rw [Rat.num_intCast]; exact h, ?_⟩
  rw [Rat.den_intCast]
  exact Nat.one_lt_two_pow hk
/-- n / d -/
@[irreducible] def dv (n d : Int) : Rat := Rat.divInt n d
theorem dv_eq (n d : Int) : dv n d = Rat.divInt n d := by unfold dv; rfl
/-- a def that brings n / d to its least numbers -/
def NF (T : Tab) (z : Str) (j : Nat) : Prop := ∀ (k : Nat) (n d : Int) (S : Store) (b : Nat), d ≠ 0 → Bd b d → b ≤ 8999 → call T (k + j) z [.d (.int n), .d (.int d)] S = .ok (.d (fr (dv n d))) S
theorem fdiv_dvd {a b : Int} (h : b ∣ a) : a.fdiv b = a / b := Int.fdiv_eq_ediv_of_dvd h
theorem Bd.gcd {b : Nat} {n d : Int} (h : d ≠ 0) (hb : Bd b d) : Bd b (Int.gcd n d : Int) := by
  unfold Bd at *
  rw [Int.natAbs_natCast]
  exact Nat.lt_of_le_of_lt (Nat.le_of_dvd (by omega) (Int.gcd_dvd_natAbs_right n d)) hb
theorem fr_pos {n d : Int} (h : 0 < d) : fr (Rat.divInt n d) = .tuple [.int (n.fdiv (Int.gcd n d)), .int (d.fdiv (Int.gcd n d))] := by
  unfold fr
  rw [Rat.num_divInt, Rat.den_divInt, if_neg (by omega), fdiv_dvd (Int.gcd_dvd_left n d), fdiv_dvd (Int.gcd_dvd_right n d), Int.sign_eq_one_of_pos h, Int.one_mul, Int.gcd_comm d n]
  congr 4
  rw [Int.natCast_ediv]
  congr 1
  omega
theorem fr_neg {n d : Int} (h : d < 0) : fr (Rat.divInt n d) = .tuple [.int ((-n).fdiv (Int.gcd n d)), .int ((-d).fdiv (Int.gcd n d))] := by
  have := fr_pos (n := -n) (d := -d) (by omega)
  rw [Rat.neg_divInt_neg, Int.gcd_neg, Int.neg_gcd] at this
  exact this
theorem sp_lowest (c : T.defs "common" = some m_common) (h : T.defs "lowest" = some m_lowest) : NF T "lowest" 2 := by
  intro k n d S b hd hb hk
  rw [call_eq h rfl, dv_eq]
  have e := sp_common (S := S) c k (a := n) hb (by omega)
  have hg := gcd_ne (n := n) hd
  have hB := Bd.gcd (n := n) hd hb
  have d1 : (Int.gcd n d : Int) ∣ n := Int.gcd_dvd_left n d
  have d2 : (Int.gcd n d : Int) ∣ d := Int.gcd_dvd_right n d
  by_cases hn : d < 0
  · have f1 := fdivB (a := n) (b := -(Int.gcd n d : Int)) (by omega) hB.neg hk
    have f2 := fdivB (a := d) (b := -(Int.gcd n d : Int)) (by omega) hB.neg hk
    have g1 : n.fdiv (-(Int.gcd n d : Int)) = (-n).fdiv (Int.gcd n d) := by
      rw [fdiv_dvd (Int.neg_dvd.mpr d1), fdiv_dvd (Int.dvd_neg.mpr d1), Int.ediv_neg, Int.neg_ediv_of_dvd d1]
    have g2 : d.fdiv (-(Int.gcd n d : Int)) = (-d).fdiv (Int.gcd n d) := by
      rw [fdiv_dvd (Int.neg_dvd.mpr d2), fdiv_dvd (Int.dvd_neg.mpr d2), Int.ediv_neg, Int.neg_ediv_of_dvd d2]
    simp [m_lowest, args0, e, hn, f1, f2, lim, isFr, fr_neg hn, g1, g2]
  · have hp : 0 < d := by omega
    have f1 := fdivB (a := n) (b := (Int.gcd n d : Int)) hg hB hk
    have f2 := fdivB (a := d) (b := (Int.gcd n d : Int)) hg hB hk
    simp [m_lowest, args0, e, hn, f1, f2, lim, isFr, fr_pos hp]

def m_plus (z : Str) : MDef := ⟨2, ["a", "b"], false, (.cons (.ret (.call z (.cons (.bin .Add (.bin .Mult (.idx (.var 0) (.cint 0)) (.idx (.var 1) (.cint 1))) (.bin .Mult (.idx (.var 1) (.cint 0)) (.idx (.var 0) (.cint 1)))) (.cons (.bin .Mult (.idx (.var 0) (.cint 1)) (.idx (.var 1) (.cint 1))) .nil)))) .nil)⟩
def m_minus (z : Str) : MDef := ⟨2, ["a", "b"], false, (.cons (.ret (.call z (.cons (.bin .Sub (.bin .Mult (.idx (.var 0) (.cint 0)) (.idx (.var 1) (.cint 1))) (.bin .Mult (.idx (.var 1) (.cint 0)) (.idx (.var 0) (.cint 1)))) (.cons (.bin .Mult (.idx (.var 0) (.cint 1)) (.idx (.var 1) (.cint 1))) .nil)))) .nil)⟩
def m_times (z : Str) : MDef := ⟨2, ["a", "b"], false, (.cons (.ret (.call z (.cons (.bin .Mult (.idx (.var 0) (.cint 0)) (.idx (.var 1) (.cint 0))) (.cons (.bin .Mult (.idx (.var 0) (.cint 1)) (.idx (.var 1) (.cint 1))) .nil)))) .nil)⟩
def m_overL (z : Str) : MDef := ⟨2, ["a", "b"], false, (.cons (.ret (.call z (.cons (.bin .Mult (.idx (.var 0) (.cint 0)) (.idx (.var 1) (.cint 1))) (.cons (.bin .Mult (.idx (.var 0) (.cint 1)) (.idx (.var 1) (.cint 0))) .nil)))) .nil)⟩
def m_over (z : Str) : MDef := ⟨2, ["a", "b"], false, (.cons (.ife (.cmp .Eq (.idx (.var 1) (.cint 0)) (.cint 0)) (.cons (.rais "Malformed" "zero") .nil) .nil) (.cons (.ret (.call z (.cons (.bin .Mult (.idx (.var 0) (.cint 0)) (.idx (.var 1) (.cint 1))) (.cons (.bin .Mult (.idx (.var 0) (.cint 1)) (.idx (.var 1) (.cint 0))) .nil)))) .nil))⟩
def m_below : MDef := ⟨2, ["a", "b"], false, (.cons (.ret (.cmp .Lt (.bin .Mult (.idx (.var 0) (.cint 0)) (.idx (.var 1) (.cint 1))) (.bin .Mult (.idx (.var 1) (.cint 0)) (.idx (.var 0) (.cint 1))))) .nil)⟩
@[simp] theorem idx0 {x : D} {xs : List D} : idxD (.tuple (x :: xs)) 0 = some x := by simp [idxD, L2.atI, L2.ixN]
@[simp] theorem idx1 {x y : D} {xs : List D} : idxD (.tuple (x :: y :: xs)) 1 = some y := by
  simp [idxD, L2.atI, L2.ixN]
  rw [if_pos (by omega)]
  rfl
theorem den_ne (q : Rat) : (q.den : Int) ≠ 0 := by
  have := q.den_nz
  omega
/-! two fractions to one -/
def FAdd (T : Tab) (f : Str) (j : Nat) : Prop := ∀ (k : Nat) (p q : Rat) (S : Store) (a b : Nat), Bq a p → Bq b q → a + b ≤ 8999 → call T (k + j) f [.d (fr p), .d (fr q)] S = .ok (.d (fr (p + q))) S
def FSub (T : Tab) (f : Str) (j : Nat) : Prop := ∀ (k : Nat) (p q : Rat) (S : Store) (a b : Nat), Bq a p → Bq b q → a + b ≤ 8999 → call T (k + j) f [.d (fr p), .d (fr q)] S = .ok (.d (fr (p - q))) S
def FMul (T : Tab) (f : Str) (j : Nat) : Prop := ∀ (k : Nat) (p q : Rat) (S : Store) (a b : Nat), Bq a p → Bq b q → a + b ≤ 8999 → call T (k + j) f [.d (fr p), .d (fr q)] S = .ok (.d (fr (p * q))) S
theorem sp_plus {z f : Str} {j : Nat} (Z : NF T z j) (h : T.defs f = some (m_plus z)) : FAdd T f (j + 1) := by
  intro k p q S a b hp hq hl
  rw [← Nat.add_assoc, call_eq h rfl]
  have e := Z k (p.num * q.den + q.num * p.den) (p.den * q.den) S (a + b) (Int.mul_ne_zero (den_ne p) (den_ne q)) (hp.2.mul hq.2) hl
  have m1 := mulB hp.1 hq.2 (by omega) (by omega)
  have m2 := mulB hq.1 hp.2 (by omega) (by omega)
  have m3 := mulB hp.2 hq.2 (by omega) (by omega)
  rw [dv_eq, ← Rat.divInt_add_divInt _ _ (den_ne p) (den_ne q), Rat.num_divInt_den, Rat.num_divInt_den] at e
  unfold fr at *
  simp [m_plus, args0, m1, m2, m3, e, isFr]
theorem sp_minus {z f : Str} {j : Nat} (Z : NF T z j) (h : T.defs f = some (m_minus z)) : FSub T f (j + 1) := by
  intro k p q S a b hp hq hl
  rw [← Nat.add_assoc, call_eq h rfl]
  have e := Z k (p.num * q.den - q.num * p.den) (p.den * q.den) S (a + b) (Int.mul_ne_zero (den_ne p) (den_ne q)) (hp.2.mul hq.2) hl
  have m1 := mulB hp.1 hq.2 (by omega) (by omega)
  have m2 := mulB hq.1 hp.2 (by omega) (by omega)
  have m3 := mulB hp.2 hq.2 (by omega) (by omega)
  rw [dv_eq, ← Rat.divInt_sub_divInt _ _ (den_ne p) (den_ne q), Rat.num_divInt_den, Rat.num_divInt_den] at e
  unfold fr at *
  simp [m_minus, args0, m1, m2, m3, e, isFr]
theorem sp_times {z f : Str} {j : Nat} (Z : NF T z j) (h : T.defs f = some (m_times z)) : FMul T f (j + 1) := by
  intro k p q S a b hp hq hl
  rw [← Nat.add_assoc, call_eq h rfl]
  have e := Z k (p.num * q.num) (p.den * q.den) S (a + b) (Int.mul_ne_zero (den_ne p) (den_ne q)) (hp.2.mul hq.2) hl
  have m1 := mulB hp.1 hq.1 (by omega) (by omega)
  have m3 := mulB hp.2 hq.2 (by omega) (by omega)
  rw [dv_eq, ← Rat.divInt_mul_divInt, Rat.num_divInt_den, Rat.num_divInt_den] at e
  unfold fr at *
  simp [m_times, args0, m1, m3, e, isFr]
theorem div_eq (p q : Rat) : Rat.divInt (p.num * q.den) (p.den * q.num) = p / q := by
  rw [← Rat.divInt_mul_divInt, Rat.num_divInt_den, Rat.div_def]
  congr 1
  rw [← Rat.inv_divInt, Rat.num_divInt_den]
theorem num_ne {q : Rat} (h : q ≠ 0) : q.num ≠ 0 := fun z => h (Rat.num_eq_zero.mp z)
/-- two fractions to one, the second one not 0 -/
def F2z (T : Tab) (f : Str) (j : Nat) : Prop := ∀ (k : Nat) (p q : Rat) (S : Store) (a b : Nat), q ≠ 0 → Bq a p → Bq b q → a + b ≤ 8999 → call T (k + j) f [.d (fr p), .d (fr q)] S = .ok (.d (fr (p / q))) S
theorem sp_overL {z f : Str} {j : Nat} (Z : NF T z j) (h : T.defs f = some (m_overL z)) : F2z T f (j + 1) := by
  intro k p q S a b h0 hp hq hl
  rw [← Nat.add_assoc, call_eq h rfl]
  have e := Z k (p.num * q.den) (p.den * q.num) S (a + b) (Int.mul_ne_zero (den_ne p) (num_ne h0)) (hp.2.mul hq.1) hl
  have m1 := mulB hp.1 hq.2 (by omega) (by omega)
  have m3 := mulB hp.2 hq.1 (by omega) (by omega)
  rw [dv_eq, div_eq] at e
  unfold fr at *
  simp [m_overL, args0, m1, m3, e, isFr]
theorem sp_over {z f : Str} {j : Nat} (Z : NF T z j) (h : T.defs f = some (m_over z)) : F2z T f (j + 1) := by
  intro k p q S a b h0 hp hq hl
  rw [← Nat.add_assoc, call_eq h rfl]
  have e := Z k (p.num * q.den) (p.den * q.num) S (a + b) (Int.mul_ne_zero (den_ne p) (num_ne h0)) (hp.2.mul hq.1) hl
  have m1 := mulB hp.1 hq.2 (by omega) (by omega)
  have m3 := mulB hp.2 hq.1 (by omega) (by omega)
  have n0 := num_ne h0
  rw [dv_eq, div_eq] at e
  unfold fr at *
  simp [m_over, args0, m1, m3, e, isFr, n0]
def m_fractionL : MDef := ⟨2, ["n", "d", "x", "y"], false, (.cons (.asg2 2 3 (.blt .abs (.cons (.var 0) .nil)) (.blt .abs (.cons (.var 1) .nil))) (.cons (.whl (.cmp .NotEq (.var 3) (.cint 0)) (.cons (.asg2 2 3 (.var 3) (.bin .Mod (.blt .int (.cons (.var 2) .nil)) (.var 3))) .nil)) (.cons (.ret (.ife (.cmp .Gt (.var 1) (.cint 0)) (.tup (.cons (.bin .FloorDiv (.var 0) (.var 2)) (.cons (.bin .FloorDiv (.var 1) (.var 2)) .nil))) (.tup (.cons (.bin .FloorDiv (.neg (.var 0)) (.var 2)) (.cons (.bin .FloorDiv (.neg (.var 1)) (.var 2)) .nil))))) .nil)))⟩
theorem sp_fractionL (h : T.defs "_law_fraction" = some m_fractionL) : NF T "_law_fraction" 1 := by
  intro k n d S b hd hb hk
  rw [call_eq h rfl, dv_eq]
  have key := whl_ok (c := evE T.gl (call T k) (.cmp .NotEq (.var 3) (.cint 0))) (n := S.length) (b := evSs T.gl (call T k) T.fr T.xm T.xi (.cons (.asg2 2 3 (.var 3) (.bin .Mod (.blt .int (.cons (.var 2) .nil)) (.var 3))) .nil))
    (fun m r S' => S' = S ∧ ∃ x y : Nat, r = [some (.d (.int n)), some (.d (.int d)), some (.d (.int x)), some (.d (.int y))] ∧ m = y ∧ Nat.gcd x y = Int.gcd n d) (fun r S' => S' = S ∧ ∃ u, r = [some (.d (.int n)), some (.d (.int d)), some (.d (.int (Int.gcd n d))), u]) (fun m r S' hI => by
      obtain ⟨rfl, x, y, rfl, hm, hg⟩ := hI
      subst hm
      refine ⟨.d (.bool (!decide (m = 0))), S', by simp, ?_⟩
      by_cases hy : m = 0
      · subst hy
        refine .inl ⟨by simp, by simp, ?_⟩
        refine ⟨some (.d (.int 0)), ?_⟩
        rw [← hg]
        simp [gcE, killV]
      · refine .inr ⟨by simp [hy], [some (.d (.int n)), some (.d (.int d)), some (.d (.int m)), some (.d (.int (x % m : Nat)))], S', ?_, x % m, Nat.mod_lt _ (Nat.pos_of_ne_zero hy), by simp, m, x % m, by simp [gcE, killV], rfl, ?_⟩
        · have hy' : (m : Int) ≠ 0 := by omega
          simp [mod_int hy', Int.fmod_eq_emod]
        · rw [← hg, Nat.gcd_comm x m, Nat.gcd_rec m x, Nat.gcd_comm]) fuel d.natAbs [some (.d (.int n)), some (.d (.int d)), some (.d (.int n.natAbs)), some (.d (.int d.natAbs))] S (lt_fuel hb (by omega)) ⟨rfl, n.natAbs, d.natAbs, rfl, rfl, rfl⟩
  obtain ⟨r', S', e1, e2, u, e3⟩ := key
  subst e2 e3
  have hg := gcd_ne (n := n) hd
  have hB := Bd.gcd (n := n) hd hb
  by_cases hn : d < 0
  · have f1 := fdivB (a := -n) (b := (Int.gcd n d : Int)) hg hB hk
    have f2 := fdivB (a := -d) (b := (Int.gcd n d : Int)) hg hB hk
    have hn' : ¬ (0 < d) := by omega
    simp [m_fractionL, args0, s_whl, abs_eq, e1, hn', f1, f2, lim, isFr, fr_neg hn]
  · have hp : 0 < d := by omega
    have f1 := fdivB (a := n) (b := (Int.gcd n d : Int)) hg hB hk
    have f2 := fdivB (a := d) (b := (Int.gcd n d : Int)) hg hB hk
    simp [m_fractionL, args0, s_whl, abs_eq, e1, hp, f1, f2, lim, isFr, fr_pos hp]
theorem bdv {k : Nat} {n d : Int} (hd : d ≠ 0) (h1 : Bd k n) (h2 : Bd k d) : Bq k (dv n d) := by
  rw [dv_eq]
  exact bdiv hd h1 h2
theorem dv_div (n d : Int) : dv n d = (n : Rat) / (d : Rat) := by rw [dv_eq, Rat.divInt_eq_div]
theorem rat_ne {n : Int} (h : n ≠ 0) : (n : Rat) ≠ 0 := fun z => h (Rat.intCast_eq_zero_iff.mp z)
theorem dv_ne {n d : Int} (hn : n ≠ 0) (hd : d ≠ 0) : dv n d ≠ 0 := by
  have h1 := rat_ne hn
  have h2 := rat_ne hd
  rw [dv_div]
  grind
theorem Bq.div {k l : Nat} {p q : Rat} (h : Bq k p) (h0 : q ≠ 0) (h2 : Bq l q) : Bq (k + l) (p / q) := by
  rw [← div_eq]
  exact bdiv (Int.mul_ne_zero (den_ne p) (num_ne h0)) (h.1.mul h2.2) (h.2.mul h2.1)
end
end Lb
/-! Loops, draws, lots. -/
namespace Rf
open PySem
@[simp] theorem der_loc {S : Store} {n : Nat} : der S (.loc n) = (match S[n]? with | some (.lst xs) => some (.list xs) | _ => none) := rfl
@[simp] theorem keep_loc {n : Nat} : keep (.loc n) = none := rfl
theorem x_lc {G : Glob} {C : Calls} {r : Env} {S : Store} {own : List Nat} {t : Tgt} {it : MI} {c : MEo} {e : ME} : evE G C (.lc own t it c e) r S = (evI G C it r S).bind fun w S1 =>
    (noErr S1.length (lcLoop w (wipeE r own) t (evC G C c) (evE G C e) w.items S1 [])).bind fun xs S2 => .ok (.d (.list xs)) S2 := by rw [evE] <;> rfl
@[simp] theorem x_c0 {G : Glob} {C : Calls} : evC G C .none = none := by rw [evC]
@[simp] theorem x_c1 {G : Glob} {C : Calls} {e : ME} : evC G C (.some e) = some (evE G C e) := by rw [evC]
theorem idxL {xs : List D} {i : Int} {y : D} (h0 : 0 ≤ i) (h : xs[i.toNat]? = some y) : idxD (.list xs) i = some y := by
  have hl := (List.getElem?_eq_some_iff.mp h).1
  unfold idxD L2.atI L2.ixN
  simp only [if_pos h0, if_pos (show i < (xs.length : Int) by omega), Option.bind_some, h]
theorem idxT {xs : List D} {i : Int} {y : D} (h0 : 0 ≤ i) (h : xs[i.toNat]? = some y) : idxD (.tuple xs) i = some y := by
  have hl := (List.getElem?_eq_some_iff.mp h).1
  unfold idxD L2.atI L2.ixN
  simp only [if_pos h0, if_pos (show i < (xs.length : Int) by omega), Option.bind_some, h]
theorem ixN_lt {n : Nat} {i : Int} (h0 : 0 ≤ i) (h : i < n) : L2.ixN n i = some i.toNat := by
  unfold L2.ixN
  rw [if_pos h0, if_pos h]
theorem stays_nil {S : Store} : stays S [] = true := rfl
/-! ### comprehensions -/
theorem lc_ok {w : Walk} {base : Env} {t : Tgt} {e : Env → Store → Res Val} (I : Nat → List D → Store → Prop) (hs : ∀ i acc S, I i acc S → stays S w.src = true) :
    ∀ (xs : List D) (i : Nat) (acc : List D) (S : Store), I i acc S → acc.length + xs.length ≤ lim → (∀ j x acc S, xs[j]? = some x → I (i + j) acc S → ∃ r, bindT t x base = some r ∧ ∃ v S', e r S = .ok (.d v) S' ∧ I (i + j + 1) (acc ++ [v]) S') →
      ∃ acc' S', lcLoop w base t none e xs S acc = .ok acc' S' ∧ I (i + xs.length) acc' S'
  | [], i, acc, S, h, _, _ => by
    unfold lcLoop
    rw [if_pos (hs _ _ _ h)]
    exact ⟨acc, S, rfl, h⟩
  | x :: xs, i, acc, S, h, hl, st => by
    obtain ⟨r, h1, v, S', h2, h3⟩ := st 0 x acc S rfl h
    unfold lcLoop
    simp only [List.length_cons] at hl
    rw [if_pos ⟨hs _ _ _ h, by omega⟩, h1]
    simp only [Res.bind_ok, if_true, h2, keep_d]
    have e1 : i + (xs.length + 1) = (i + 1) + xs.length := by omega
    rw [List.length_cons, e1]
    exact lc_ok I hs xs (i + 1) (acc ++ [v]) S' h3 (by simp; omega) fun j y acc S hy hI => by
      have := st (j + 1) y acc S (by simpa using hy) (by rw [show i + (j + 1) = i + 1 + j by omega]; exact hI)
      rw [show i + (j + 1) = i + 1 + j by omega] at this
      exact this
/-- nothing changes -/
theorem lc_map {α : Type} {g : α → D} (f : α → D) {w : Walk} {base : Env} {t : Tgt} {e : Env → Store → Res Val} {S : Store} (hs : stays S w.src = true) :
    ∀ (as : List α) (acc : List D), acc.length + as.length ≤ lim → (∀ a ∈ as, ∃ r, bindT t (g a) base = some r ∧ e r S = .ok (.d (f a)) S) → lcLoop w base t none e (as.map g) S acc = .ok (acc ++ as.map f) S
  | [], acc, _, _ => by
    unfold lcLoop
    simp only [List.map_nil]
    rw [if_pos hs]
    simp
  | x :: xs, acc, hl, st => by
    obtain ⟨r, h1, h2⟩ := st x (by simp)
    unfold lcLoop
    simp only [List.length_cons, List.map_cons] at hl ⊢
    rw [if_pos ⟨hs, by omega⟩, h1]
    simp only [Res.bind_ok, if_true, h2, keep_d]
    rw [lc_map f hs xs (acc ++ [f x]) (by simp; omega) fun y hy => st y (by simp [hy])]
    simp
theorem lc_filter {α : Type} {g : α → D} (p : α → Bool) (f : α → D) {w : Walk} {base : Env} {t : Tgt} {c e : Env → Store → Res Val} {S : Store} (hs : stays S w.src = true) :
    ∀ (as : List α) (acc : List D), acc.length + as.length ≤ lim → (∀ a ∈ as, ∃ r, bindT t (g a) base = some r ∧ c r S = .ok (.d (.bool (p a))) S ∧ (p a = true → e r S = .ok (.d (f a)) S)) → lcLoop w base t (some c) e (as.map g) S acc = .ok (acc ++ (as.filter p).map f) S
  | [], acc, _, _ => by
    unfold lcLoop
    simp only [List.map_nil]
    rw [if_pos hs]
    simp
  | x :: xs, acc, hl, st => by
    obtain ⟨r, h1, h2, h3⟩ := st x (by simp)
    unfold lcLoop
    simp only [List.length_cons, List.map_cons] at hl ⊢
    rw [if_pos ⟨hs, by omega⟩, h1]
    cases hp : p x with
    | true =>
      simp only [Res.bind_ok, if_true, h2, h3 hp, keep_d, tru_d, truD_bool, Res.lift_some, hp]
      rw [lc_filter p f hs xs (acc ++ [f x]) (by simp; omega) fun y hy => st y (by simp [hy])]
      simp [hp]
    | false =>
      simp only [Res.bind_ok, h2, tru_d, truD_bool, Res.lift_some, hp, Bool.false_eq_true, if_false]
      rw [lc_filter p f hs xs acc (by omega) fun y hy => st y (by simp [hy])]
      simp [hp]
/-! ### for -/
theorem for_ok {w : Walk} {t : Tgt} {n : Nat} {b : Env → Store → SR} (I : Nat → Env → Store → Prop) (hs : ∀ i r S, I i r S → stays S w.src = true) :
    ∀ (xs : List D) (i : Nat) (r : Env) (S : Store), I i r S → (∀ j x r S, xs[j]? = some x → I (i + j) r S → ∃ r1, bindT t x r = some r1 ∧ ∃ r2 S2, (b r1 S = .next r2 S2 ∨ b r1 S = .cont r2 S2) ∧ I (i + j + 1) (gcE n r2) (S2.take n)) →
      ∃ r' S', forLoop w t n b xs r S = .next r' S' ∧ I (i + xs.length) r' S'
  | [], i, r, S, h, _ => by
    unfold forLoop
    rw [if_pos (hs _ _ _ h)]
    exact ⟨r, S, rfl, h⟩
  | x :: xs, i, r, S, h, st => by
    obtain ⟨r1, h1, r2, S2, h2, h3⟩ := st 0 x r S rfl h
    unfold forLoop
    rw [if_pos (hs _ _ _ h), h1]
    have e1 : i + (xs.length + 1) = (i + 1) + xs.length := by omega
    have rest := for_ok I hs xs (i + 1) (gcE n r2) (S2.take n) h3 fun j y r S hy hI => by
      have := st (j + 1) y r S (by simpa using hy) (by rw [show i + (j + 1) = i + 1 + j by omega]; exact hI)
      rw [show i + (j + 1) = i + 1 + j by omega] at this
      exact this
    rw [List.length_cons, e1]
    rcases h2 with h2 | h2 <;> simp only [h2] <;> exact rest
end Rf
namespace Lb
open PySem Rf
def m_L_take : MDef := ⟨2, ["draw", "many", "found"], false, (.cons 
(.ife (.cmp .Eq (.idx (.var 0) (.cint 2)) (.cint 0)) (.cons 
(.setI 0 (.cint 1) (.bin .Add (.idx (.var 0) (.cint 1)) (.cint 1))) (.cons 
(.ife (.cmp .Lt (.idx (.var 0) (.cint 1)) (.blt .len (.cons (.idx (.var 0) (.cint 0)) .nil))) (.cons 
(.setI 0 (.cint 2) (.idx (.idx (.var 0) (.cint 0)) (.idx (.var 0) (.cint 1)))) .nil) .nil) (.cons 
(.ife (.cmp .Eq (.idx (.var 0) (.cint 2)) (.cint 0)) (.cons 
(.setI 0 (.cint 3) (.bin .Mod (.blt .int (.cons (.bin .Add (.bin .Mult (.idx (.var 0) (.cint 3)) (.cint 48271)) (.cint 11)) .nil)) (.cint 2147483647))) (.cons 
(.setI 0 (.cint 2) (.idx (.var 0) (.cint 3))) .nil)) .nil) .nil))) .nil) (.cons 
(.asg 2 (.bin .Mod (.blt .int (.cons (.idx (.var 0) (.cint 2)) .nil)) (.var 1))) (.cons 
(.setI 0 (.cint 2) (.bin .FloorDiv (.idx (.var 0) (.cint 2)) (.var 1))) (.cons 
(.ret (.var 2)) .nil))))⟩
/-- the cell of the draws -/
def DrA (cs : List Int) (i x s : Int) : Cell := .lst [.list (cs.map .int), .int i, .int x, .int s]
def Dr (c : Cell) : Prop := ∃ (cs : List Int) (i x s : Int), c = DrA cs i x s ∧ (∀ y ∈ cs, 0 ≤ y) ∧ -1 ≤ i ∧ 0 ≤ x ∧ 0 ≤ s ∧ s < 2147483647
def Take (T : Tab) : Prop := ∀ (k : Nat) (c : Cell) (R : Store) (many : Int) (b : Nat), Dr c → 0 < many → Bd b many → b ≤ 8999 → ∃ v c', call T (k + 1) "_law_take" [.loc 0, .d (.int many)] (c :: R) = .ok (.d (.int v)) (c' :: R) ∧ 0 ≤ v ∧ v < many ∧ Dr c'
theorem Bd.lit {k : Nat} {a : Int} (h : a.natAbs < 2 ^ k) : Bd k a := h
theorem sp_take {T : Tab} (h : T.defs "_law_take" = some m_L_take) : Take T := by
  intro k c R many b hc hm hb hk
  obtain ⟨cs, i, x, s, rfl, h1, h2, h3, h4, h5⟩ := hc
  have fd : ∀ a, binD .FloorDiv (.int a) (.int many) = some (.int (a.fdiv many)) := fun a => fdivB (by omega) hb hk
  have fm : ∀ a, binD .Mod (.int a) (.int many) = some (.int (a.fmod many)) := fun a => mod_int (by omega)
  have fin : ∀ (cs : List Int) (i x s : Int), (∀ y ∈ cs, 0 ≤ y) → -1 ≤ i → 0 ≤ x → 0 ≤ s → s < 2147483647 → ∃ v c', (Res.ok (.d (.int (x.fmod many))) (DrA cs i (x.fdiv many) s :: R) : Res Val) = .ok (.d (.int v)) (c' :: R) ∧ 0 ≤ v ∧ v < many ∧ Dr c' := fun cs i x s a1 a2 a3 a4 a5 =>
    ⟨_, _, rfl, Int.fmod_nonneg_of_pos _ hm, Int.fmod_lt_of_pos _ hm, cs, i, _, s, rfl, a1, a2, Int.fdiv_nonneg a3 (by omega), a4, a5⟩
  have ms : binD .Mult (.int s) (.int 48271) = some (.int (s * 48271)) := mulB (k := 31) (l := 16) (by unfold Bd; omega) (by unfold Bd; decide) (by decide) (by decide)
  have mo : ∀ a, binD .Mod (.int a) (.int 2147483647) = some (.int (a.fmod 2147483647)) := fun a => mod_int (by decide)
  have n1 : 0 ≤ (s * 48271 + 11).fmod 2147483647 := Int.fmod_nonneg_of_pos _ (by decide)
  have n2 : (s * 48271 + 11).fmod 2147483647 < 2147483647 := Int.fmod_lt_of_pos _ (by decide)
  have q0 : ∀ a b c d : D, idxD (.list [a, b, c, d]) 0 = some a := fun _ _ _ _ => rfl
  have q1 : ∀ a b c d : D, idxD (.list [a, b, c, d]) 1 = some b := fun _ _ _ _ => rfl
  have q2 : ∀ a b c d : D, idxD (.list [a, b, c, d]) 2 = some c := fun _ _ _ _ => rfl
  have q3 : ∀ a b c d : D, idxD (.list [a, b, c, d]) 3 = some d := fun _ _ _ _ => rfl
  rw [call_eq h rfl]
  by_cases hx : x = 0
  · subst hx
    by_cases hi : i + 1 < cs.length
    · have hg : (cs.map PyData.int)[(i + 1).toNat]? = some (PyData.int cs[(i + 1).toNat]) := by
        rw [List.getElem?_map, List.getElem?_eq_getElem (by omega)]
        rfl
      have hix : idxD (.list (cs.map PyData.int)) (i + 1) = some (PyData.int cs[(i + 1).toNat]) := idxL (by omega) hg
      have hpos : 0 ≤ cs[(i + 1).toNat] := h1 _ (List.getElem_mem _)
      by_cases hz : cs[(i + 1).toNat] = 0
      · have := fin cs (i + 1) ((s * 48271 + 11).fmod 2147483647) ((s * 48271 + 11).fmod 2147483647) h1 (by omega) n1 n1 n2
        simpa [m_L_take, args0, DrA, L2.ixN, q0, q1, q2, q3, hi, hz, hix, fd, fm, ms, mo, isFr] using this
      · have := fin cs (i + 1) (cs[(i + 1).toNat]) s h1 (by omega) hpos h4 h5
        simpa [m_L_take, args0, DrA, L2.ixN, q0, q1, q2, q3, hi, hz, hix, fd, fm, ms, mo, isFr] using this
    · have := fin cs (i + 1) ((s * 48271 + 11).fmod 2147483647) ((s * 48271 + 11).fmod 2147483647) h1 (by omega) n1 n1 n2
      simpa [m_L_take, args0, DrA, L2.ixN, q0, q1, q2, q3, hi, fd, fm, ms, mo, isFr] using this
  · have := fin cs i x s h1 h2 h3 h4 h5
    simpa [m_L_take, args0, DrA, L2.ixN, q0, q1, q2, q3, hx, fd, fm, isFr] using this
end Lb
/-! The law's draw; lots. -/
namespace Rf
open PySem
@[simp] theorem fin_retF {n : Nat} {x : D} {S : Store} : fin n true (.ret (.d x) true S) = .ok (.d x) (S.take n) := by simp [fin, hand]
theorem noErr_okL {A : Type} {n : Nat} {a : A} {S : Store} (h : S.length = n) : noErr n (.ok a S) = .ok a S := by unfold noErr; exact if_pos h
theorem SR.seq_of {x : SR} {k : Env → Store → SR} {y : SR} (h : ∃ r S, x = .next r S ∧ k r S = y) : x.seq k = y := by
  obtain ⟨r, S, e, h⟩ := h
  rw [e]
  exact h
theorem intsO_map : ∀ ns : List Int, intsO (ns.map .int) = some ns
  | [] => rfl
  | n :: r => by simp [intsO, intsO_map r]
@[simp] theorem sum_list {ns : List Int} : bltD .sum [.list (ns.map .int)] = some (.int ns.sum) := by simp [bltD, intsO_map]
@[simp] theorem sum_tuple {ns : List Int} : bltD .sum [.tuple (ns.map .int)] = some (.int ns.sum) := by simp [bltD, intsO_map]
@[simp] theorem sorted_list {ns : List Int} : bltD .sorted [.list (ns.map .int)] = some (.list ((isort ns).map .int)) := by simp [bltD, intsO_map]
@[simp] theorem tuple_list {xs : List D} : bltD .tuple [.list xs] = some (.tuple xs) := rfl
@[simp] theorem tuple_tuple {xs : List D} : bltD .tuple [.tuple xs] = some (.tuple xs) := rfl
@[simp] theorem list_tuple {xs : List D} : bltD .list [.tuple xs] = some (.list xs) := rfl
@[simp] theorem list_list {xs : List D} : bltD .list [.list xs] = some (.list xs) := rfl
@[simp] theorem min_2 {a b : Int} : bltD .min [.int a, .int b] = some (.int (if b < a then b else a)) := rfl
@[simp] theorem max_2 {a b : Int} : bltD .max [.int a, .int b] = some (.int (if b > a then b else a)) := rfl
theorem blsO_map : ∀ ns : List Bool, blsO (ns.map .bool) = some ns
  | [] => rfl
  | n :: r => by simp [blsO, blsO_map r]
@[simp] theorem all_list {bs : List Bool} : bltD .all [.list (bs.map .bool)] = some (.bool (bs.all id)) := by simp [bltD, blsO_map]
@[simp] theorem any_list {bs : List Bool} : bltD .any [.list (bs.map .bool)] = some (.bool (bs.any id)) := by simp [bltD, blsO_map]
theorem blsO_mapF {α : Type} (p : α → Bool) : ∀ as : List α, blsO (as.map fun a => .bool (p a)) = some (as.map p)
  | [] => rfl
  | a :: r => by simp [blsO, blsO_mapF p r]
theorem intsO_mapF {α : Type} (p : α → Int) : ∀ as : List α, intsO (as.map fun a => .int (p a)) = some (as.map p)
  | [] => rfl
  | a :: r => by simp [intsO, intsO_mapF p r]
@[simp] theorem all_map {α : Type} {p : α → Bool} {as : List α} : bltD .all [.list (as.map fun a => .bool (p a))] = some (.bool (as.all p)) := by
  simp [bltD, blsO_mapF, List.all_map, Function.comp_def]
@[simp] theorem any_map {α : Type} {p : α → Bool} {as : List α} : bltD .any [.list (as.map fun a => .bool (p a))] = some (.bool (as.any p)) := by
  simp [bltD, blsO_mapF, List.any_map, Function.comp_def]
@[simp] theorem sum_map {α : Type} {p : α → Int} {as : List α} : bltD .sum [.list (as.map fun a => .int (p a))] = some (.int (as.map p).sum) := by
  simp [bltD, intsO_mapF]
theorem ins_len (x : Int) : ∀ l : List Int, (ins x l).length = l.length + 1
  | [] => rfl
  | y :: r => by unfold ins; split <;> simp [ins_len x r]
theorem isort_len : ∀ l : List Int, (isort l).length = l.length
  | [] => rfl
  | x :: r => by unfold isort; rw [ins_len, isort_len r]; rfl
theorem ins_mem {x y : Int} : ∀ {l : List Int}, y ∈ ins x l ↔ y = x ∨ y ∈ l
  | [] => by simp [ins]
  | z :: r => by
    unfold ins
    split
    · simp
    · simp only [List.mem_cons, ins_mem]
      constructor
      · rintro (h | h | h) <;> simp [h]
      · rintro (h | h | h) <;> simp [h]
theorem isort_mem {y : Int} : ∀ {l : List Int}, y ∈ isort l ↔ y ∈ l
  | [] => by simp [isort]
  | x :: r => by
    unfold isort
    rw [ins_mem, isort_mem]
    simp
@[simp] theorem seqD_scr {S : Store} {ns : List Int} : seqD S (.scr ns) = some (ns.map .int) := rfl
@[simp] theorem seqD_list {S : Store} {xs : List D} : seqD S (.d (.list xs)) = some xs := rfl
@[simp] theorem seqD_tuple {S : Store} {xs : List D} : seqD S (.d (.tuple xs)) = some xs := rfl
@[simp] theorem srcOf_scr {S : Store} {ns : List Int} : srcOf S (.scr ns) = [] := rfl
@[simp] theorem srcOf_d {S : Store} {x : D} : srcOf S (.d x) = [] := rfl
@[simp] theorem bindT_nm {i : Nat} {x : D} {r : Env} : bindT (.nm i) x r = some (r.set i (some (.d x))) := rfl
@[simp] theorem bindT_tp {ts : Tgts} {xs : List D} {r : Env} : bindT (.tp ts) (.tuple xs) r = bindTs ts xs r := rfl
@[simp] theorem bindTs_nil {r : Env} : bindTs .nil [] r = some r := rfl
@[simp] theorem bindTs_cons {t : Tgt} {ts : Tgts} {x : D} {xs : List D} {r : Env} : bindTs (.cons t ts) (x :: xs) r = (match bindT t x r with | some r1 => bindTs ts xs r1 | none => none) := rfl
theorem upto_mem {x : D} : ∀ {n : Nat} {a : Int}, x ∈ upto a n → ∃ i : Int, x = .int i ∧ a ≤ i ∧ i < a + n
  | 0, a, h => by simp [upto] at h
  | n + 1, a, h => by
    unfold upto at h
    rcases List.mem_cons.mp h with e | e
    · exact ⟨a, e, by omega, by omega⟩
    · obtain ⟨i, h1, h2, h3⟩ := upto_mem e
      exact ⟨i, h1, by omega, by omega⟩
theorem upto_map : ∀ (n : Nat) (a : Int), upto a n = (List.range n).map fun i => .int (a + (i : Nat))
  | 0, _ => rfl
  | n + 1, a => by
    rw [upto, upto_map n, List.range_succ_eq_map, List.map_cons, List.map_map]
    congr 1
    · simp
    · refine List.map_congr_left fun i _ => ?_
      simp only [Function.comp, Nat.succ_eq_add_one]
      congr 1
      omega
end Rf
namespace Lb
open PySem Rf
def m_L_draw : MDef := ⟨1, ["script", "seed", "cell"], true, (.cons 
(.asg 1 (.cint 7)) (.cons 
(.for_ (.nm 2) (.over (.var 0)) (.cons 
(.asg 1 (.bin .Mod (.blt .int (.cons (.bin .Add (.bin .Add (.bin .Mult (.var 1) (.cint 48271)) (.bin .Mod (.blt .abs (.cons (.blt .int (.cons (.var 2) .nil)) .nil)) (.cint 65521))) (.cint 1)) .nil)) (.cint 2147483647))) .nil)) (.cons 
(.ret (.lst (.cons (.lc [2] (.nm 2) (.over (.var 0)) .none (.blt .abs (.cons (.blt .int (.cons (.var 2) .nil)) .nil))) (.cons (.neg (.cint 1)) (.cons (.cint 0) (.cons (.var 1) .nil)))))) .nil)))⟩
/-- the draws begin -/
def Draw (T : Tab) : Prop := ∀ (k : Nat) (ns : List Int) (S : Store), ns.length ≤ 63 → ∃ xs, call T (k + 1) "_law_draw" [.scr ns] S = .ok (.d (.list xs)) S ∧ Dr (.lst xs)
theorem sp_draw {T : Tab} (h : T.defs "_law_draw" = some m_L_draw) : Draw T := by
  intro k ns S hl
  rw [call_eq h rfl]
  simp only [m_L_draw, args0, s_for, x_scons, s_asg, x_int, SR.of_ok, SR.seq_next, x_over, x_var, List.map_cons, List.map_nil, List.length_cons, List.length_nil, List.replicate, List.cons_append, List.nil_append, List.set_cons_succ, List.set_cons_zero, List.getElem?_cons_zero, seqD_scr, Res.bind_ok, srcOf_scr]
  generalize hL : forLoop _ _ _ _ _ _ _ = L
  obtain ⟨r', S', e, h1, s, u, h2, h3, h4⟩ : ∃ r' S', L = .next r' S' ∧ S' = S ∧ ∃ (s : Int) (u : Option Val), r' = [some (.scr ns), some (.d (.int s)), u] ∧ 0 ≤ s ∧ s < 2147483647 := by
    rw [← hL]
    refine for_ok (fun _ r' S' => S' = S ∧ ∃ (s : Int) (u : Option Val), r' = [some (.scr ns), some (.d (.int s)), u] ∧ 0 ≤ s ∧ s < 2147483647) (fun _ _ _ _ => rfl) _ 0 _ _ ⟨rfl, 7, _, rfl, by decide, by decide⟩ ?_
    rintro j x r S1 hx ⟨rfl, s, u, rfl, h3, h4⟩
    have hx' : ∃ z : Int, x = .int z := by
      rw [List.getElem?_map] at hx
      cases hz : ns[j]? with
      | none => rw [hz] at hx; cases hx
      | some z => rw [hz] at hx; exact ⟨z, (Option.some.inj hx).symm⟩
    obtain ⟨z, rfl⟩ := hx'
    have ms : binD .Mult (.int s) (.int 48271) = some (.int (s * 48271)) := mulB (k := 31) (l := 16) (by unfold Bd; omega) (by unfold Bd; decide) (by decide) (by decide)
    have mo : ∀ a, binD .Mod (.int a) (.int 2147483647) = some (.int (a.fmod 2147483647)) := fun a => mod_int (by decide)
    have mo2 : ∀ a, binD .Mod (.int a) (.int 65521) = some (.int (a.fmod 65521)) := fun a => mod_int (by decide)
    refine ⟨_, rfl, ?_⟩
    simp only [List.set_cons_succ, List.set_cons_zero, x_scons, x_snil, s_asg, x_bin, x_blt, x_cons, x_nil, x_var, x_int, List.getElem?_cons_succ, List.getElem?_cons_zero, Res.bind_ok, ders_cons, ders_nil, der_d, int_int, abs_int, Option.map_some, Res.lift_some, ms, mo, mo2, add_int, SR.of_ok, SR.seq_next]
    refine ⟨_, _, .inl rfl, by simp, _, _, by simp [gcE, killV]; exact ⟨rfl, rfl⟩, Int.fmod_nonneg_of_pos _ (by decide), Int.fmod_lt_of_pos _ (by decide)⟩
  subst e h1 h2
  refine ⟨[.list ((ns.map fun z => if z < 0 then -z else z).map .int), .int (-1), .int 0, .int s], ?_, ?_⟩
  · simp only [SR.seq_next, s_ret, x_lst, x_cons, x_nil, x_lc, x_over, x_var, List.getElem?_cons_zero, seqD_scr, Res.bind_ok, srcOf_scr, x_c0]
    rw [lc_map (fun z : Int => .int (if z < 0 then -z else z)) rfl ns [] (by simp [lim]; omega) fun z hz => ⟨_, rfl, by simp [wipeE]⟩, noErr_okL rfl]
    simp [lim, isFr]
  · refine ⟨ns.map fun z => if z < 0 then -z else z, -1, 0, s, ?_, fun y hy => ?_, by decide, by decide, h3, h4⟩
    · simp [DrA]
    · obtain ⟨z, _, rfl⟩ := List.mem_map.mp hy
      split <;> omega
end Lb
/-! Lots. -/
namespace Rf
open PySem
@[simp] theorem get_last {R : Store} {x : Cell} : (R ++ [x])[R.length]? = some x := by simp
@[simp] theorem set_last {R : Store} {x y : Cell} : (R ++ [x]).set R.length y = R ++ [y] := by
  rw [List.set_append_right _ _ (Nat.le_refl _), Nat.sub_self]
  rfl
@[simp] theorem take_last {R : Store} {x : Cell} : (R ++ [x]).take (R.length + 1) = R ++ [x] := List.take_of_length_le (by simp)
@[simp] theorem killV_loc {n m : Nat} : killV n (some (.loc m)) = if m < n then some (.loc m) else none := rfl
@[simp] theorem killV_d {n : Nat} {x : D} : killV n (some (.d x)) = some (.d x) := rfl
@[simp] theorem killV_scr {n : Nat} {x : List Int} : killV n (some (.scr x)) = some (.scr x) := rfl
@[simp] theorem killV_none {n : Nat} : killV n none = none := rfl
@[simp] theorem gcE_nil {n : Nat} : gcE n [] = [] := rfl
@[simp] theorem gcE_cons {n : Nat} {o : Option Val} {r : Env} : gcE n (o :: r) = killV n o :: gcE n r := rfl
@[simp] theorem wipeE_nil {r : Env} : wipeE r [] = r := rfl
@[simp] theorem wipeE_cons {r : Env} {i : Nat} {is : List Nat} : wipeE r (i :: is) = (wipeE r is).set i none := rfl
theorem for_run {w : Walk} {t : Tgt} {n : Nat} {b : Env → Store → SR} {xs : List D} {r : Env} {S : Store} {J : Env → Store → Prop} (I : Nat → Env → Store → Prop) (hs : ∀ i r S, I i r S → stays S w.src = true) (h0 : I 0 r S) (hd : ∀ r' S', I xs.length r' S' → J r' S')
    (st : ∀ j x r S, xs[j]? = some x → I j r S → ∃ r1, bindT t x r = some r1 ∧ ∃ r2 S2, (b r1 S = .next r2 S2 ∨ b r1 S = .cont r2 S2) ∧ I (j + 1) (gcE n r2) (S2.take n)) : ∃ r' S', forLoop w t n b xs r S = .next r' S' ∧ J r' S' := by
  obtain ⟨r', S', e, q⟩ := for_ok I hs xs 0 r S h0 fun j x r S hx hI => by
    rw [Nat.zero_add] at hI ⊢
    exact st j x r S hx hI
  rw [Nat.zero_add] at q
  exact ⟨r', S', e, hd _ _ q⟩
theorem lc_run {w : Walk} {base : Env} {t : Tgt} {e : Env → Store → Res Val} {xs : List D} {S : Store} {J : List D → Store → Prop} (I : Nat → List D → Store → Prop) (hs : ∀ i acc S, I i acc S → stays S w.src = true) (h0 : I 0 [] S) (hl : xs.length ≤ lim) (hd : ∀ acc S', I xs.length acc S' → J acc S')
    (st : ∀ j x acc S, xs[j]? = some x → I j acc S → ∃ r, bindT t x base = some r ∧ ∃ v S', e r S = .ok (.d v) S' ∧ I (j + 1) (acc ++ [v]) S') : ∃ acc' S', lcLoop w base t none e xs S [] = .ok acc' S' ∧ J acc' S' := by
  obtain ⟨r', S', e, q⟩ := lc_ok I hs xs 0 [] S h0 (by simpa using hl) fun j x r S hx hI => by
    rw [Nat.zero_add] at hI ⊢
    exact st j x r S hx hI
  rw [Nat.zero_add] at q
  exact ⟨r', S', e, hd _ _ q⟩
end Rf
namespace Lb
open PySem Rf
def tl (xs : List Int) : D := .tuple (xs.map .int)
structure Lot (xs : List Int) (n : Nat) (m : Int) : Prop where
  pos : 1 ≤ xs.length
  len : xs.length ≤ n
  mem : ∀ x ∈ xs, 1 ≤ x ∧ x ≤ m
  srt : xs.Pairwise (· ≤ ·)
def m_L_lot : MDef := ⟨3, ["draw", "people", "most", "top", "bases", "k", "found"], false, (.cons 
(.asg 3 (.idx (.lst (.cons (.cint 4) (.cons (.cint 9) (.cons (.cint 30) (.cons (.cint 1000) (.cons (.cint 1000000) .nil)))))) (.call "_law_take" (.cons (.var 0) (.cons (.cint 5) .nil))))) (.cons 
(.asg 3 (.blt .min (.cons (.var 3) (.cons (.var 2) .nil)))) (.cons 
(.asg 4 (.lc [5] (.nm 5) (.rng1 (.bin .Add (.cint 1) (.call "_law_take" (.cons (.var 0) (.cons (.cint 4) .nil))))) .none (.bin .Add (.cint 1) (.call "_law_take" (.cons (.var 0) (.cons (.var 3) .nil)))))) (.cons 
(.asgN 6 (.lst .nil)) (.cons 
(.for_ (.nm 5) (.rng1 (.bin .Add (.cint 1) (.call "_law_take" (.cons (.var 0) (.cons (.var 1) .nil))))) (.cons 
(.app 6 (.ife (.cmp .Gt (.call "_law_take" (.cons (.var 0) (.cons (.cint 3) .nil))) (.cint 0)) (.idx (.var 4) (.call "_law_take" (.cons (.var 0) (.cons (.blt .len (.cons (.var 4) .nil)) .nil)))) (.bin .Add (.cint 1) (.call "_law_take" (.cons (.var 0) (.cons (.var 3) .nil)))))) .nil)) (.cons 
(.ret (.blt .tuple (.cons (.blt .sorted (.cons (.var 6) .nil)) .nil))) .nil))))))⟩
def DrawLot (T : Tab) : Prop := ∀ (k : Nat) (c : Cell) (R : Store) (people : Nat) (most : Int), Dr c → 1 ≤ people → people ≤ 1000 → 1 ≤ most → most ≤ 1000000 →
  ∃ xs c', call T (k + 2) "_law_lot" [.loc 0, .d (.int people), .d (.int most)] (c :: R) = .ok (.d (tl xs)) (c' :: R) ∧ Dr c' ∧ Lot xs people most
theorem sp_lot {T : Tab} (h : T.defs "_law_lot" = some m_L_lot) (tk : Take T) : DrawLot T := by
  intro k c R people most hc hp hp2 hm hm2
  rw [call_eq h rfl]
  obtain ⟨v, c1, e1, a1, b1, d1⟩ := tk k c R 5 3 hc (by decide) (by unfold Bd; decide) (by decide)
  obtain ⟨top, hi, ht1, ht2⟩ : ∃ top, idxD (.list [.int 4, .int 9, .int 30, .int 1000, .int 1000000]) v = some (.int top) ∧ 1 ≤ top ∧ top ≤ 1000000 := by
    have : v = 0 ∨ v = 1 ∨ v = 2 ∨ v = 3 ∨ v = 4 := by omega
    rcases this with rfl | rfl | rfl | rfl | rfl <;> exact ⟨_, rfl, by decide, by decide⟩
  obtain ⟨v2, c2, e2, a2, b2, d2⟩ := tk k c1 R 4 3 d1 (by decide) (by unfold Bd; decide) (by decide)
  generalize hmt : (if most < top then most else top) = mt
  have hmt1 : 1 ≤ mt := by subst hmt; split <;> omega
  have hmt2 : mt ≤ most := by subst hmt; split <;> omega
  have hmb : Bd 20 mt := by unfold Bd; omega
  -- the bases
  have g1 : -100000000 ≤ 1 + v2 ∧ 1 + v2 ≤ 100000000 := by omega
  simp [m_L_lot, args0, e1, hi, hmt, x_lc, e2, lim, g1, s_for]
  generalize hL : lcLoop _ _ _ _ _ _ _ _ = L
  obtain ⟨acc, S1, e3, ⟨bs, c3, rfl, rfl, hbl, d3, hb⟩⟩ : ∃ acc S1, L = .ok acc S1 ∧ ∃ (bs : List Int) (c3 : Cell), acc = bs.map .int ∧ S1 = c3 :: R ∧ bs.length = (1 + v2).toNat ∧ Dr c3 ∧ ∀ x ∈ bs, 1 ≤ x ∧ x ≤ most := by
    rw [← hL]
    refine lc_run (fun i acc S1 => ∃ (bs : List Int) (c3 : Cell), acc = bs.map .int ∧ S1 = c3 :: R ∧ bs.length = i ∧ Dr c3 ∧ ∀ x ∈ bs, 1 ≤ x ∧ x ≤ most) (fun _ _ _ _ => rfl) ⟨[], c2, rfl, rfl, rfl, d2, by simp⟩ (by rw [upto_len]; simp [lim]; omega) (fun _ _ h => by rwa [upto_len] at h) ?_
    rintro j x acc S1 hx ⟨bs, c3, rfl, rfl, hl, d3, hb⟩
    obtain ⟨v3, c4, e4, a4, b4, d4⟩ := tk k c3 R mt 20 d3 (by omega) hmb (by decide)
    refine ⟨_, rfl, .int (1 + v3), c4 :: R, by simp [e4], bs ++ [1 + v3], c4, by simp, rfl, by simp [hl], d4, fun y hy => ?_⟩
    rcases List.mem_append.mp hy with q | q
    · exact hb y q
    · have : y = 1 + v3 := by simpa using q
      omega
  subst e3
  obtain ⟨v5, c5, e5, a5, b5, d5⟩ := tk k c3 (R ++ [.lst []]) people 20 d3 (by omega) (by unfold Bd; omega) (by decide)
  have g2 : -100000000 ≤ 1 + v5 ∧ 1 + v5 ≤ 100000000 := by omega
  simp [noErr_okL, isFr, e5, g2]
  generalize hL2 : forLoop _ _ _ _ _ _ _ = L2
  obtain ⟨r1, S2, e6, ⟨u, xs, c6, rfl, rfl, hl6, d6, hx6⟩⟩ : ∃ r1 S2, L2 = .next r1 S2 ∧ ∃ (u : Option Val) (xs : List Int) (c6 : Cell), r1 = [some (.loc 0), some (.d (.int people)), some (.d (.int most)), some (.d (.int mt)), some (.d (.list (bs.map .int))), u, some (.loc (R.length + 1))] ∧ S2 = c6 :: (R ++ [.lst (xs.map .int)]) ∧ xs.length = (1 + v5).toNat ∧ Dr c6 ∧ ∀ x ∈ xs, 1 ≤ x ∧ x ≤ most := by
    rw [← hL2]
    refine for_run (fun i r1 S2 => ∃ (u : Option Val) (xs : List Int) (c6 : Cell), r1 = [some (.loc 0), some (.d (.int people)), some (.d (.int most)), some (.d (.int mt)), some (.d (.list (bs.map .int))), u, some (.loc (R.length + 1))] ∧ S2 = c6 :: (R ++ [.lst (xs.map .int)]) ∧ xs.length = i ∧ Dr c6 ∧ ∀ x ∈ xs, 1 ≤ x ∧ x ≤ most) (fun _ _ _ _ => rfl) ⟨_, [], c5, rfl, rfl, rfl, d5, by simp⟩ (fun _ _ h => by rwa [upto_len] at h) ?_
    rintro j x r1 S2 hx ⟨u, xs, c6, rfl, rfl, hl, d6, hb6⟩
    obtain ⟨v7, c7, e7, a7, b7, d7⟩ := tk k c6 (R ++ [.lst (xs.map .int)]) 3 3 d6 (by omega) (by unfold Bd; omega) (by decide)
    have hj : j < 1000 := by
      have := (List.getElem?_eq_some_iff.mp hx).1
      rw [upto_len] at this
      omega
    have fin : ∀ (y : Int) (c8 : Cell), Dr c8 → 1 ≤ y → y ≤ most → ∃ (u : Option Val) (xs' : List Int) (c6 : Cell), [some (.loc 0), some (.d (.int people)), some (.d (.int most)), some (.d (.int mt)), some (.d (.list (bs.map .int))), some (.d x), some (.loc (R.length + 1))] = [some (.loc 0), some (.d (.int people)), some (.d (.int most)), some (.d (.int mt)), some (.d (.list (bs.map .int))), u, some (.loc (R.length + 1))] ∧ c8 :: (R ++ [.lst (xs.map .int ++ [.int y])]) = c6 :: (R ++ [.lst (xs'.map .int)]) ∧ xs'.length = j + 1 ∧ Dr c6 ∧ ∀ x ∈ xs', 1 ≤ x ∧ x ≤ most := fun y c8 h8 y1 y2 =>
      ⟨_, xs ++ [y], c8, rfl, by simp, by simp [hl], h8, fun z hz => by
        rcases List.mem_append.mp hz with q | q
        · exact hb6 z q
        · have : z = y := by simpa using q
          omega⟩
    have hlx : xs.length < lim := by unfold lim; omega
    refine ⟨_, rfl, ?_⟩
    by_cases h7 : 0 < v7
    · obtain ⟨v8, c8, e8, a8, b8, d8⟩ := tk k c7 (R ++ [.lst (xs.map .int)]) bs.length 20 d7 (by omega) (by unfold Bd; omega) (by decide)
      have hi8 : idxD (.list (bs.map .int)) v8 = some (.int bs[v8.toNat]) := idxL a8 (by rw [List.getElem?_map, List.getElem?_eq_getElem (by omega)]; rfl)
      have hm8 := hb _ (List.getElem_mem (show v8.toNat < bs.length by omega))
      refine ⟨_, _, .inl (by simp [e7, h7, e8, hi8, hlx]; exact ⟨rfl, rfl⟩), ?_⟩
      have := fin bs[v8.toNat] c8 d8 hm8.1 hm8.2
      simpa using this
    · obtain ⟨v8, c8, e8, a8, b8, d8⟩ := tk k c7 (R ++ [.lst (xs.map .int)]) mt 20 d7 (by omega) hmb (by decide)
      refine ⟨_, _, .inl (by simp [e7, h7, e8, hlx]; exact ⟨rfl, rfl⟩), ?_⟩
      have := fin (1 + v8) c8 d8 (by omega) (by omega)
      simpa using this
  subst e6
  refine ⟨isort xs, c6, ?_, d6, ⟨?_, ?_, ?_, isort_sorted _⟩⟩
  · simp [tl]
  · rw [isort_len]; omega
  · rw [isort_len]; omega
  · intro x hx
    exact hx6 x (isort_mem.mp hx)
end Lb
/-! What is a lot. -/
namespace Lb
open PySem Rf
def whole : D → Bool
  | .int _ => true
  | _ => false
def income : D → Bool
  | .int i => decide (1 ≤ i ∧ i ≤ 1000000)
  | _ => false
def asc : List Int → Bool
  | x :: y :: r => decide (x ≤ y) && asc (y :: r)
  | _ => true
def intL : List D → List Int
  | .int i :: r => i :: intL r
  | _ => []
def isLot : D → Bool
  | .tuple xs => decide (1 ≤ xs.length ∧ xs.length ≤ 40) && xs.all income && asc (intL xs)
  | _ => false
theorem isi_int {d : D} : isiD d "int" = (match d with | .int _ => true | .bool _ => true | _ => false) := by
  cases d <;> simp [isiD, tyD]
theorem isi_bool {d : D} : isiD d "bool" = (match d with | .bool _ => true | _ => false) := by
  cases d <;> simp [isiD, tyD]
theorem isi_tuple {d : D} : isiD d "tuple" = (match d with | .tuple _ => true | _ => false) := by
  cases d <;> simp [isiD, tyD]
theorem isi_list {d : D} : isiD d "list" = (match d with | .list _ => true | _ => false) := by
  cases d <;> simp [isiD, tyD]
theorem isi_str {d : D} : isiD d "str" = (match d with | .str _ => true | _ => false) := by
  cases d <;> simp [isiD, tyD]
section
variable {T : Tab}
theorem sp_is_whole (h : T.defs "is_whole" = some m_is_whole) (k : Nat) (v : D) (S : Store) : call T (k + 1) "is_whole" [.d v] S = .ok (.d (.bool (whole v))) S := by
  rw [call_eq h rfl]
  cases v <;> simp [m_is_whole, args0, isi_int, isi_bool, isFr, whole]
def m_is_income (g : Str) : MDef := ⟨1, ["value"], false, (.cons (.ret (.and (.call "is_whole" (.cons (.var 0) .nil)) (.cmp2 .LtE .LtE (.cint 1) (.var 0) (.gl g)))) .nil)⟩
def IsIncome (T : Tab) : Prop := ∀ (k : Nat) (v : D) (S : Store), call T (k + 2) "is_income" [.d v] S = .ok (.d (.bool (income v))) S
theorem sp_is_income {g : Str} (h : T.defs "is_income" = some (m_is_income g)) (hg : T.gl g = some (.d (.int 1000000))) (hw : T.defs "is_whole" = some m_is_whole) : IsIncome T := by
  intro k v S
  rw [call_eq h rfl]
  have e := sp_is_whole hw k v S
  cases v <;> simp [m_is_income, args0, e, whole, income, isFr]
  rename_i i
  by_cases h1 : 1 ≤ i
  · simp [h1, hg]
  · simp [h1]
def m_is_lot (g : Str) : MDef := ⟨1, ["value", "item", "k"], false, (.cons 
(.ife (.or (.not (.isi1 (.var 0) "tuple")) (.not (.cmp2 .LtE .LtE (.cint 1) (.blt .len (.cons (.var 0) .nil)) (.gl g)))) (.cons 
(.ret (.cbl false)) .nil) .nil) (.cons 
(.ife (.not (.blt .all (.cons (.lc [1] (.nm 1) (.over (.var 0)) .none (.call "is_income" (.cons (.var 1) .nil))) .nil))) (.cons 
(.ret (.cbl false)) .nil) .nil) (.cons 
(.ret (.blt .all (.cons (.lc [2] (.nm 2) (.rng2 (.cint 1) (.blt .len (.cons (.var 0) .nil))) .none (.cmp .LtE (.idx (.var 0) (.bin .Sub (.var 2) (.cint 1))) (.idx (.var 0) (.var 2)))) .nil))) .nil)))⟩
theorem intL_of : ∀ {xs : List D}, xs.all income = true → xs = (intL xs).map .int
  | [], _ => rfl
  | x :: xs, h => by
    simp only [List.all_cons, Bool.and_eq_true] at h
    cases x <;> first | (simp [income] at h; done) | skip
    rw [intL, List.map_cons, ← intL_of h.2]
theorem asc_range : ∀ (ns : List Int), ((List.range (ns.length - 1)).all fun i => decide ((ns[i]?).getD 0 ≤ (ns[i + 1]?).getD 0)) = asc ns
  | [] => rfl
  | [x] => rfl
  | x :: y :: r => by
    have ih := asc_range (y :: r)
    rw [asc, ← ih]
    simp only [List.length_cons, Nat.add_sub_cancel]
    rw [List.range_succ_eq_map, List.all_cons, List.all_map]
    simp [Function.comp_def]
theorem sp_is_lot {g : Str} (h : T.defs "is_lot" = some (m_is_lot g)) (hg : T.gl g = some (.d (.int 40))) (hi : IsIncome T) (k : Nat) (v : D) (S : Store) : call T (k + 3) "is_lot" [.d v] S = .ok (.d (.bool (isLot v))) S := by
  rw [call_eq h rfl]
  cases v <;> first | (simp [m_is_lot, args0, isi_tuple, isFr, isLot]; done) | skip
  rename_i xs
  by_cases h1 : 1 ≤ xs.length
  · by_cases h2 : xs.length ≤ 40
    · have h1' : (1 : Int) ≤ xs.length := by omega
      have h2' : (xs.length : Int) ≤ 40 := by omega
      have e1 := lc_map (g := id) (fun x : D => PyData.bool (income x)) (w := ⟨xs, []⟩) (base := [some (.d (.tuple xs)), none, none]) (t := .nm 1) (e := evE T.gl (call T (k + 2)) (.call "is_income" (.cons (.var 1) .nil))) (S := S) rfl xs [] (by simp [lim]; omega) fun a _ => ⟨_, rfl, by simp [hi k a S]⟩
      simp only [List.map_id, List.nil_append] at e1
      by_cases h3 : xs.all income = true
      · have ex := intL_of h3
        generalize hns : intL xs = ns at ex
        subst ex
        have e2 := lc_map (g := fun i : Nat => PyData.int (1 + (i : Int))) (fun i => PyData.bool (decide ((ns[i]?).getD 0 ≤ (ns[i + 1]?).getD 0))) (w := ⟨upto 1 (ns.length - 1), []⟩) (base := [some (.d (.tuple (ns.map .int))), none, none]) (t := .nm 2) (e := evE T.gl (call T (k + 2)) (.cmp .LtE (.idx (.var 0) (.bin .Sub (.var 2) (.cint 1))) (.idx (.var 0) (.var 2)))) (S := S) rfl (List.range (ns.length - 1)) [] (by simp [lim]; simp at h2; omega) fun i hi => by
          have hi' : i + 1 < ns.length := by have := List.mem_range.mp hi; omega
          have q1 : idxD (.tuple (ns.map .int)) (1 + (i : Int) - 1) = some (.int ((ns[i]?).getD 0)) := by
            rw [show 1 + (i : Int) - 1 = (i : Int) by omega]
            refine idxT (by omega) ?_
            rw [Int.toNat_natCast, List.getElem?_map, List.getElem?_eq_getElem (by omega)]
            rfl
          have q2 : idxD (.tuple (ns.map .int)) (1 + (i : Int)) = some (.int ((ns[i + 1]?).getD 0)) := by
            refine idxT (by omega) ?_
            rw [show (1 + (i : Int)).toNat = i + 1 by omega, List.getElem?_map, List.getElem?_eq_getElem (by omega)]
            rfl
          exact ⟨_, rfl, by simp [q1, q2]⟩
        have g2 : (-100000000 ≤ (1 : Int) ∧ (1 : Int) ≤ 100000000) ∧ -100000000 ≤ (ns.length : Int) ∧ (ns.length : Int) ≤ 100000000 := by
          simp at h2
          omega
        have e3 : ((ns.length : Int) - 1).toNat = ns.length - 1 := by omega
        rw [List.nil_append] at e2
        rw [← upto_map (ns.length - 1) 1] at e2
        simp only [List.length_map] at h1' h2'
        simp [-List.all_map, -List.map_map, m_is_lot, args0, isi_tuple, hg, h1', h2', x_lc, e1, noErr_okL, h3, g2, e3, e2, asc_range, isFr, isLot]
        simp only [List.length_map] at h1 h2
        simp [h1, h2, hns]
      · simp [-List.all_map, -List.map_map, m_is_lot, args0, isi_tuple, hg, h1', h2', x_lc, e1, noErr_okL, h3, isFr, isLot]
    · have h1' : (1 : Int) ≤ xs.length := by omega
      have h2' : ¬ (xs.length : Int) ≤ 40 := by omega
      simp [m_is_lot, args0, isi_tuple, isFr, isLot, h1', h2', hg]
      omega
  · have h1' : ¬ (1 : Int) ≤ xs.length := by omega
    simp [m_is_lot, args0, isi_tuple, isFr, isLot, h1', hg]
    omega
def m_check_lot : MDef := ⟨1, ["value"], false, (.cons (.ife (.not (.call "is_lot" (.cons (.var 0) .nil))) (.cons (.rais "Malformed" "no lot") .nil) .nil) .nil)⟩
theorem sp_check_lot {g : Str} (h : T.defs "check_lot" = some m_check_lot) (h2 : T.defs "is_lot" = some (m_is_lot g)) (hg : T.gl g = some (.d (.int 40))) (hi : IsIncome T) (k : Nat) (v : D) (S : Store) :
    call T (k + 4) "check_lot" [.d v] S = if isLot v then .ok (.d .none) S else .err ⟨"Malformed", none⟩ S := by
  rw [call_eq h rfl]
  have e := sp_is_lot h2 hg hi k v S
  cases hv : isLot v <;> simp [m_check_lot, args0, e, hv]
theorem intL_map (ns : List Int) : intL (ns.map .int) = ns := by
  induction ns with
  | nil => rfl
  | cons x r ih => rw [List.map_cons, intL, ih]
theorem asc_of : ∀ {ns : List Int}, ns.Pairwise (· ≤ ·) → asc ns = true
  | [], _ => rfl
  | [_], _ => rfl
  | x :: y :: r, h => by
    rw [List.pairwise_cons] at h
    rw [asc, asc_of h.2, Bool.and_true, decide_eq_true_eq]
    exact h.1 y (by simp)
theorem isLot_of {xs : List Int} {n : Nat} {m : Int} (h : Lot xs n m) (hn : n ≤ 40) (hm : m ≤ 1000000) : isLot (tl xs) = true := by
  unfold tl isLot
  simp only [Bool.and_eq_true, decide_eq_true_eq, List.length_map, intL_map]
  refine ⟨⟨⟨h.pos, Nat.le_trans h.len hn⟩, ?_⟩, asc_of h.srt⟩
  rw [List.all_eq_true]
  intro x hx
  obtain ⟨y, hy, rfl⟩ := List.mem_map.mp hx
  have := h.mem y hy
  simp only [income, decide_eq_true_eq]
  omega
end
end Lb
/-! Tuples of ints. -/
namespace Lb
open PySem Rf
@[simp] theorem len_tl {xs : List Int} : bltD .len [tl xs] = some (.int xs.length) := by simp [tl]
@[simp] theorem sum_tl {xs : List Int} : bltD .sum [tl xs] = some (.int xs.sum) := by simp [tl]
@[simp] theorem list_tl {xs : List Int} : bltD .list [tl xs] = some (.list (xs.map .int)) := by simp [tl]
@[simp] theorem seqD_tl {S : Store} {xs : List Int} : seqD S (.d (tl xs)) = some (xs.map .int) := rfl
/-- the item at a place -/
def at0 (xs : List Int) (j : Nat) : Int := xs.getD j 0
theorem at0_eq {xs : List Int} {j : Nat} (h : j < xs.length) : at0 xs j = xs[j] := by
  unfold at0
  rw [List.getD_eq_getElem?_getD, List.getElem?_eq_getElem h]
  rfl
theorem idx_at {xs : List Int} {i : Int} {j : Nat} (h : i = j) (hj : j < xs.length) : idxD (tl xs) i = some (.int (at0 xs j)) := by
  subst h
  refine idxT (by omega) ?_
  rw [Int.toNat_natCast, List.getElem?_map, List.getElem?_eq_getElem hj, at0_eq hj]
  rfl
theorem idxL_at {xs : List Int} {i : Int} {j : Nat} (h : i = j) (hj : j < xs.length) : idxD (.list (xs.map .int)) i = some (.int (at0 xs j)) := by
  subst h
  refine idxL (by omega) ?_
  rw [Int.toNat_natCast, List.getElem?_map, List.getElem?_eq_getElem hj, at0_eq hj]
  rfl
theorem cut_to {ys : List D} {j : Nat} (hj : j ≤ ys.length) : cutD ys none (some (j : Int)) = ys.take j := by
  unfold cutD
  rw [HT.sIx_none, HT.sIx_nat]
  simp [Nat.min_eq_left hj]
theorem cut_from {ys : List D} {j : Nat} (hj : j ≤ ys.length) : cutD ys (some (j : Int)) none = ys.drop j := by
  unfold cutD
  rw [HT.sIx_none, HT.sIx_nat]
  simp [Nat.min_eq_left hj]
  rw [List.take_of_length_le (by simp)]
theorem cut_last {ys : List D} (h : 1 ≤ ys.length) : cutD ys none (some (-1)) = ys.take (ys.length - 1) := by
  unfold cutD
  rw [HT.sIx_none]
  unfold HT.sIx
  simp
  congr 1
  omega
theorem slc_to {xs : List Int} {i : Int} {j : Nat} (h : i = j) (hj : j ≤ xs.length) : slcD (tl xs) none (some i) = some (tl (xs.take j)) := by
  subst h
  show some (PyData.tuple (cutD (xs.map .int) none (some (j : Int)))) = _
  rw [cut_to (by simpa using hj), tl, List.map_take]
theorem slc_from {xs : List Int} {i : Int} {j : Nat} (h : i = j) (hj : j ≤ xs.length) : slcD (tl xs) (some i) none = some (tl (xs.drop j)) := by
  subst h
  show some (PyData.tuple (cutD (xs.map .int) (some (j : Int)) none)) = _
  rw [cut_from (by simpa using hj), tl, List.map_drop]
@[simp] theorem fd2 {a : Int} : binD .FloorDiv (.int a) (.int 2) = some (.int (a / 2)) := by
  rw [fdivB (k := 2) (by decide) (by unfold Bd; decide) (by decide), Int.fdiv_eq_ediv_of_nonneg _ (by decide)]
@[simp] theorem md2 {a : Int} : binD .Mod (.int a) (.int 2) = some (.int (a % 2)) := by
  rw [mod_int (by decide), Int.fmod_eq_emod_of_nonneg _ (by decide)]
theorem mul2 {a : Int} {k : Nat} (h : Bd k a) (hk : k ≤ 400000) : binD .Mult (.int 2) (.int a) = some (.int (2 * a)) := mulB (k := 2) (by unfold Bd; decide) h (by decide) hk
theorem bd_sum {k n : Nat} {xs : List Int} (h : ∀ x ∈ xs, Bd k x) (hl : xs.length ≤ 2 ^ n) : Bd (k + n) xs.sum := by
  have key : ∀ (xs : List Int), (∀ x ∈ xs, Bd k x) → xs.sum.natAbs + xs.length ≤ xs.length * 2 ^ k := by
    intro xs
    induction xs with
    | nil => intro _; simp
    | cons x r ih =>
      intro h
      have h1 := ih fun y hy => h y (by simp [hy])
      have h2 : Bd k x := h x (by simp)
      unfold Bd at h2
      simp only [List.sum_cons, List.length_cons, Nat.add_mul, Nat.one_mul]
      omega
  have h1 := key xs h
  have h2 : xs.length * 2 ^ k ≤ 2 ^ n * 2 ^ k := Nat.mul_le_mul_right _ hl
  have h3 : 0 < 2 ^ n * 2 ^ k := Nat.mul_pos (Nat.pow_pos (by decide)) (Nat.pow_pos (by decide))
  unfold Bd
  rw [Nat.add_comm k n, Nat.pow_add]
  by_cases z : xs.length = 0
  · have : xs = [] := List.eq_nil_of_length_eq_zero z
    subst this
    simpa using h3
  · omega
theorem Lot.bd {xs : List Int} {n : Nat} {m : Int} (h : Lot xs n m) (hm : m ≤ 1000000) : ∀ x ∈ xs, Bd 20 x := fun x hx => by
  have := h.mem x hx
  unfold Bd
  omega
def enumI (i : Int) : List Int → List (Int × Int)
  | [] => []
  | x :: r => (i, x) :: enumI (i + 1) r
theorem enumI_len : ∀ (xs : List Int) (i : Int), (enumI i xs).length = xs.length
  | [], _ => rfl
  | x :: r, i => by rw [enumI, List.length_cons, List.length_cons, enumI_len r]
theorem enumI_mem' {p : Int × Int} : ∀ {xs : List Int} {i : Int}, p ∈ enumI i xs → i ≤ p.1 ∧ p.1 < i + xs.length ∧ p.2 ∈ xs
  | [], _, h => by simp [enumI] at h
  | x :: r, i, h => by
    rw [enumI] at h
    rcases List.mem_cons.mp h with e | e
    · subst e
      simp
      omega
    · obtain ⟨h1, h2, h3⟩ := enumI_mem' e
      refine ⟨by omega, ?_, by simp [h3]⟩
      rw [List.length_cons]
      omega
theorem enumI_mem {p : Int × Int} {xs : List Int} (h : p ∈ enumI 0 xs) : 0 ≤ p.1 ∧ p.1 < xs.length ∧ p.2 ∈ xs := by
  obtain ⟨h1, h2, h3⟩ := enumI_mem' h
  exact ⟨h1, by omega, h3⟩
theorem enumD_map : ∀ (xs : List Int) (i : Nat), enumD i (xs.map .int) = (enumI i xs).map fun p => PyData.tuple [.int p.1, .int p.2]
  | [], _ => rfl
  | x :: r, i => by
    rw [List.map_cons, enumD, enumI, List.map_cons, enumD_map r (i + 1)]
    rfl
theorem enumD_map0 (xs : List Int) : enumD 0 (xs.map .int) = (enumI 0 xs).map fun p => PyData.tuple [.int p.1, .int p.2] := enumD_map xs 0
end Lb
/-! Data that may be compared. -/
namespace Lb
open PySem Rf
/-! data of at most n floors, without texts and dicts -/
mutual
def flat : Nat → D → Bool
  | _, .none => true
  | _, .bool _ => true
  | _, .int _ => true
  | n + 1, .list xs => flats n xs
  | n + 1, .tuple xs => flats n xs
  | _, _ => false
def flats : Nat → List D → Bool
  | _, [] => true
  | n, x :: xs => flat n x && flats n xs
end
mutual
theorem flat_ok : ∀ (n : Nat) (d : D), flat n d = true → d.canLay0 = true ∧ d.depth ≤ n
  | _, .none, _ => ⟨rfl, by simp [PyData.depth]⟩
  | _, .bool _, _ => ⟨rfl, by simp [PyData.depth]⟩
  | _, .int _, _ => ⟨rfl, by simp [PyData.depth]⟩
  | 0, .list xs, h => by simp [flat] at h
  | 0, .tuple xs, h => by simp [flat] at h
  | n + 1, .list xs, h => by
    have := flats_ok n xs (by simpa [flat] using h)
    exact ⟨by simpa [PyData.canLay0] using this.1, by simp only [PyData.depth]; omega⟩
  | n + 1, .tuple xs, h => by
    have := flats_ok n xs (by simpa [flat] using h)
    exact ⟨by simpa [PyData.canLay0] using this.1, by simp only [PyData.depth]; omega⟩
  | 0, .str _, h => by simp [flat] at h
  | n + 1, .str _, h => by simp [flat] at h
  | 0, .dict _, h => by simp [flat] at h
  | n + 1, .dict _, h => by simp [flat] at h
theorem flats_ok : ∀ (n : Nat) (d : List D), flats n d = true → PyData.canLayAll0 d = true ∧ PyData.depthAll d ≤ n
  | _, [], _ => ⟨rfl, by simp [PyData.depthAll]⟩
  | n, x :: xs, h => by
    simp only [flats, Bool.and_eq_true] at h
    have a := flat_ok n x h.1
    have b := flats_ok n xs h.2
    exact ⟨by simp [PyData.canLayAll0, a.1, b.1], by simp only [PyData.depthAll]; omega⟩
end
theorem shp_flat {n : Nat} {d : D} (h : flat n d = true) (hn : n ≤ 64) : shp d = true := by
  have := flat_ok n d h
  unfold shp SeqAt.shaped
  simp [this.1]
  omega
theorem ne_self {n : Nat} {d : D} (h : flat n d = true) (hn : n ≤ 64) : cmpD .NotEq d d = some false := by
  have e := shp_flat h hn
  have r := SeqAt.eqv_refl d (flat_ok n d h).1
  simp [cmpD, e, r]
theorem eq_self {n : Nat} {d : D} (h : flat n d = true) (hn : n ≤ 64) : cmpD .Eq d d = some true := by
  have e := shp_flat h hn
  have r := SeqAt.eqv_refl d (flat_ok n d h).1
  simp [cmpD, e, r]
theorem flats_int {n : Nat} : ∀ xs : List Int, flats n (xs.map .int) = true
  | [] => by simp [flats]
  | x :: r => by
    rw [List.map_cons, flats, flats_int r, Bool.and_true]
    cases n <;> rfl
theorem flat_tl {n : Nat} {xs : List Int} : flat (n + 1) (tl xs) = true := by
  unfold tl
  rw [flat]
  exact flats_int xs
theorem flat_fr {n : Nat} {q : Rat} : flat (n + 1) (fr q) = true := flat_tl (xs := [q.num, q.den])
@[simp] theorem ne_fr {q : Rat} : cmpD .NotEq (fr q) (fr q) = some false := ne_self (n := 1) flat_fr (by decide)
@[simp] theorem ne_tl {xs : List Int} : cmpD .NotEq (tl xs) (tl xs) = some false := ne_self (n := 1) flat_tl (by decide)
theorem ne_tls {xs ys : List Int} : cmpD .NotEq (.tuple [tl xs, tl ys]) (.tuple [tl xs, tl ys]) = some false := ne_self (n := 2) (by simp [flat, flats, flat_tl]) (by decide)
end Lb
namespace Rf
open PySem
theorem s_tryR {G : Glob} {C : Calls} {r : Env} {S : Store} {fr : Str → Bool} {xm xi : Exm} {b : MSs} {c : Str} {i : Nat} {h : HE} : evS G C fr xm xi (.tryR b c i h) r S = (match evSs G C fr xm xi b r S with
    | .err e r1 S1 => match xm e.cls c with
      | some true => match evH xi e h with
        | some d => if i < r1.length then .ret (.d d) false S1 else .stuck
        | none => .stuck
      | some false => .err e r1 S1
      | none => .stuck
    | o => o) := by rw [evS] <;> rfl
end Rf
/-! Fractions, further: less, sums, what is a fraction. -/
namespace Lb
open PySem Rf
section
variable {T : Tab}
def FLt (T : Tab) (f : Str) (j : Nat) : Prop := ∀ (k : Nat) (p q : Rat) (S : Store) (a b : Nat), Bq a p → Bq b q → a ≤ 400000 → b ≤ 400000 → call T (k + j) f [.d (fr p), .d (fr q)] S = .ok (.d (.bool (decide (p < q)))) S
theorem sp_below {f : Str} (h : T.defs f = some m_below) : FLt T f 1 := by
  intro k p q S a b hp hq ha hb
  rw [call_eq h rfl]
  have m1 := mulB hp.1 hq.2 ha hb
  have m2 := mulB hq.1 hp.2 hb ha
  have e : decide (p < q) = decide (p.num * q.den < q.num * p.den) := by
    rw [decide_eq_decide]
    exact Rat.lt_iff p q
  rw [e]
  unfold fr
  simp [m_below, args0, m1, m2, isFr]
theorem fr_int (x : Int) : fr (x : Rat) = .tuple [.int x, .int 1] := by
  unfold fr
  rw [Rat.num_intCast, Rat.den_intCast]
  rfl
theorem fr_0 : fr 0 = .tuple [.int 0, .int 1] := rfl
theorem fr_1 : fr 1 = .tuple [.int 1, .int 1] := rfl
@[simp] theorem idx_fr0 {q : Rat} : idxD (fr q) 0 = some (.int q.num) := idx0
@[simp] theorem idx_fr1 {q : Rat} : idxD (fr q) 1 = some (.int q.den) := idx1
theorem Bq.zero : Bq 1 (0 : Rat) := ⟨by unfold Bd; decide, by unfold Bd; decide⟩
/-- the sum of fractions, one after the other -/
def sumQ (qs : List Rat) : Rat := qs.foldl (· + ·) 0
theorem sumQ_app (qs : List Rat) (q : Rat) : sumQ (qs ++ [q]) = sumQ qs + q := by
  unfold sumQ
  rw [List.foldl_append]
  rfl
/-- a def that sums a list or a tuple of fractions; b: bits of each sum on the way -/
def FSum (T : Tab) (f : Str) (j : Nat) : Prop := ∀ (k : Nat) (qs : List Rat) (S : Store) (a b : Nat) (v : D), (v = .list (qs.map fr) ∨ v = .tuple (qs.map fr)) → (∀ q ∈ qs, Bq a q) → (∀ i, i ≤ qs.length → Bq b (sumQ (qs.take i))) → a + b ≤ 8999 →
  call T (k + j) f [.d v] S = .ok (.d (fr (sumQ qs))) S
def m_sumL (pl : Str) : MDef := ⟨1, ["items", "found", "item"], false, (.cons (.asg 1 (.tup (.cons (.cint 0) (.cons (.cint 1) .nil)))) (.cons (.for_ (.nm 2) (.over (.var 0)) (.cons (.asg 1 (.call pl (.cons (.var 1) (.cons (.var 2) .nil)))) .nil)) (.cons (.ret (.var 1)) .nil)))⟩
def m_total (g pl : Str) : MDef := ⟨1, ["items", "found", "item"], false, (.cons (.asg 1 (.gl g)) (.cons (.for_ (.nm 2) (.over (.var 0)) (.cons (.ife (.cmp .NotEq (.idx (.var 2) (.cint 0)) (.cint 0)) (.cons (.asg 1 (.call pl (.cons (.var 1) (.cons (.var 2) .nil)))) .nil) .nil) .nil)) (.cons (.ret (.var 1)) .nil)))⟩
theorem sum_loop {pl : Str} {j : Nat} {b : Rf.Env → Store → SR} {S : Store} {v : D} {qs : List Rat} {B : Nat} {u : Option Val} (hB : ∀ i, i ≤ qs.length → Bq B (sumQ (qs.take i)))
    (hb : ∀ (i : Nat) (q : Rat), qs[i]? = some q → b [some (.d v), some (.d (fr (sumQ (qs.take i)))), some (.d (fr q))] S = .next [some (.d v), some (.d (fr (sumQ (qs.take i) + q))), some (.d (fr q))] S) :
    ∃ u', forLoop ⟨qs.map fr, []⟩ (.nm 2) S.length b (qs.map fr) [some (.d v), some (.d (fr 0)), u] S = .next [some (.d v), some (.d (fr (sumQ qs))), u'] S := by
  obtain ⟨r', S', e, q⟩ := for_run (w := ⟨qs.map fr, []⟩) (t := .nm 2) (n := S.length) (b := b) (xs := qs.map fr) (r := [some (.d v), some (.d (fr 0)), u]) (S := S)
    (J := fun r S' => S' = S ∧ ∃ u', r = [some (.d v), some (.d (fr (sumQ qs))), u'])
    (fun i r S' => S' = S ∧ ∃ u', r = [some (.d v), some (.d (fr (sumQ (qs.take i)))), u']) (fun _ _ _ _ => rfl) ⟨rfl, u, rfl⟩ (fun r S' h => by
      rw [List.length_map, List.take_length] at h
      exact h) (fun i x r S' hx ⟨e1, u', e2⟩ => by
      subst e1 e2
      rw [List.getElem?_map, Option.map_eq_some_iff] at hx
      obtain ⟨q, hq, rfl⟩ := hx
      have tk1 : qs.take (i + 1) = qs.take i ++ [q] := by rw [List.take_add_one, hq]; rfl
      exact ⟨_, rfl, _, _, .inl (hb i q hq), List.take_length, some (.d (fr q)), by rw [tk1, sumQ_app]; rfl⟩)
  obtain ⟨e1, u', e2⟩ := q
  subst e1 e2
  exact ⟨u', e⟩
theorem sp_sumL {f pl : Str} {j : Nat} (h : T.defs f = some (m_sumL pl)) (P : FAdd T pl j) : FSum T f (j + 1) := by
  intro k qs S a b v hv ha hB hl
  rw [← Nat.add_assoc, call_eq h rfl]
  have key : ∀ u : Option Val, _ := fun u => sum_loop (pl := pl) (j := j) (S := S) (v := v) (u := u) (b := evSs T.gl (call T (k + j)) T.fr T.xm T.xi (.cons (.asg 1 (.call pl (.cons (.var 1) (.cons (.var 2) .nil)))) .nil)) hB fun i q hq => by
    have e := P k _ q S b a (hB i (Nat.le_of_lt (List.getElem?_eq_some_iff.mp hq).1)) (ha q (List.mem_of_getElem? hq)) (by omega)
    simp [e]
  obtain ⟨u', e⟩ := key none
  rw [fr_0] at e
  rcases hv with rfl | rfl <;> simp [m_sumL, args0, s_for, lim, e, isFr]
theorem sp_total {f g pl : Str} {j : Nat} (h : T.defs f = some (m_total g pl)) (hg : T.gl g = some (.d (.tuple [.int 0, .int 1]))) (P : FAdd T pl j) : FSum T f (j + 1) := by
  intro k qs S a b v hv ha hB hl
  rw [← Nat.add_assoc, call_eq h rfl]
  have key : ∀ u : Option Val, _ := fun u => sum_loop (pl := pl) (j := j) (S := S) (v := v) (u := u) (b := evSs T.gl (call T (k + j)) T.fr T.xm T.xi (.cons (.ife (.cmp .NotEq (.idx (.var 2) (.cint 0)) (.cint 0)) (.cons (.asg 1 (.call pl (.cons (.var 1) (.cons (.var 2) .nil)))) .nil) .nil) .nil)) hB fun i q hq => by
    have e := P k _ q S b a (hB i (Nat.le_of_lt (List.getElem?_eq_some_iff.mp hq).1)) (ha q (List.mem_of_getElem? hq)) (by omega)
    by_cases h0 : q.num = 0
    · have : q = 0 := Rat.num_eq_zero.mp h0
      subst this
      simp [Rat.add_zero]
    · simp [e, h0]
  obtain ⟨u', e⟩ := key none
  rw [fr_0] at e
  rcases hv with rfl | rfl <;> simp [m_total, args0, s_for, hg, e, isFr]
/-- what is a fraction -/
def isRatio : D → Bool
  | .tuple [.int a, .int b] => decide (0 < b) && decide (Int.gcd a b = 1)
  | _ => false
def m_is_ratio : MDef := ⟨1, ["value"], false, (.cons 
(.ife (.or (.not (.isi1 (.var 0) "tuple")) (.or (.cmp .NotEq (.blt .len (.cons (.var 0) .nil)) (.cint 2)) (.or (.not (.call "is_whole" (.cons (.idx (.var 0) (.cint 0)) .nil))) (.not (.call "is_whole" (.cons (.idx (.var 0) (.cint 1)) .nil)))))) (.cons 
(.ret (.cbl false)) .nil) .nil) (.cons 
(.ret (.and (.cmp .Gt (.idx (.var 0) (.cint 1)) (.cint 0)) (.cmp .Eq (.call "common" (.cons (.idx (.var 0) (.cint 0)) (.cons (.idx (.var 0) (.cint 1)) .nil))) (.cint 1)))) .nil))⟩
theorem sp_is_ratio (h : T.defs "is_ratio" = some m_is_ratio) (hw : T.defs "is_whole" = some m_is_whole) (hc : T.defs "common" = some m_common) (k : Nat) (v : D) (S : Store) (hB : ∀ a b, v = .tuple [.int a, .int b] → Bd 100000 b) :
    call T (k + 2) "is_ratio" [.d v] S = .ok (.d (.bool (isRatio v))) S := by
  rw [call_eq h rfl]
  have w := fun x => sp_is_whole hw k x S
  cases v <;> first | (simp [m_is_ratio, args0, isi_tuple, isFr, isRatio]; done) | skip
  rename_i xs
  match xs, hB with
  | [], _ => simp [m_is_ratio, args0, isi_tuple, isFr, isRatio]
  | [x], _ => simp [m_is_ratio, args0, isi_tuple, isFr, isRatio]
  | x :: y :: z :: r, _ =>
    have e : ¬ ((r.length : Int) + 1 + 1 + 1 = 2) := by omega
    cases x <;> cases y <;> simp [m_is_ratio, args0, isi_tuple, isFr, isRatio, e]
  | [x, y], hB =>
    by_cases hx : whole x = true
    · by_cases hy : whole y = true
      · cases x <;> simp only [whole, Bool.false_eq_true] at hx
        cases y <;> simp only [whole, Bool.false_eq_true] at hy
        rename_i a b
        have c := sp_common (S := S) hc k (a := a) (hB a b rfl) (by decide)
        by_cases hp : 0 < b
        · simp [m_is_ratio, args0, isi_tuple, isFr, isRatio, w, whole, hp, c]
          omega
        · simp [m_is_ratio, args0, isi_tuple, isFr, isRatio, w, whole, hp]
      · have hr : isRatio (.tuple [x, y]) = false := by cases x <;> cases y <;> simp_all [isRatio, whole]
        simp [m_is_ratio, args0, isi_tuple, isFr, w, hx, hy, hr]
    · have hr : isRatio (.tuple [x, y]) = false := by cases x <;> cases y <;> simp_all [isRatio, whole]
      simp [m_is_ratio, args0, isi_tuple, isFr, w, hx, hr]
theorem isRatio_fr (q : Rat) : isRatio (fr q) = true := by
  have h1 := q.den_nz
  have h2 := q.reduced
  unfold fr isRatio
  simp only [Bool.and_eq_true, decide_eq_true_eq]
  exact ⟨by omega, h2⟩
end
end Lb
namespace K35
open PySem PySem.Spec PyProof.Rows L2 Rf
def top (i : Nat) : Stmt := PySem.Challenge.pw_levelpurses_k35_poverty_below_lines.main.body.getD i (.Pass ⟨0, 0, 0, 0⟩)
abbrev s_is_whole : Stmt := top 5
abbrev s_common : Stmt := top 6
abbrev s_lowest : Stmt := top 7
abbrev s_is_ratio : Stmt := top 8
abbrev s_plus : Stmt := top 9
abbrev s_minus : Stmt := top 10
abbrev s_times : Stmt := top 11
abbrev s_over : Stmt := top 12
abbrev s_below : Stmt := top 13
abbrev s_total : Stmt := top 14
abbrev s_is_income : Stmt := top 18
abbrev s_is_lot : Stmt := top 19
abbrev s_check_lot : Stmt := top 20
abbrev s_is_line : Stmt := top 25
abbrev s_check_line : Stmt := top 26
abbrev s_check_poor_word : Stmt := top 27
abbrev s_lacks : Stmt := top 28
abbrev s_lack_sum : Stmt := top 29
abbrev s_poverty_of : Stmt := top 30
abbrev s_poverty : Stmt := top 31
abbrev s_are_groups : Stmt := top 32
abbrev s_check_groups : Stmt := top 33
abbrev s_poverty_parts : Stmt := top 34
abbrev s_L_draw : Stmt := top 36
abbrev s_L_take : Stmt := top 37
abbrev s_L_fraction : Stmt := top 38
abbrev s_L_plus : Stmt := top 39
abbrev s_L_minus : Stmt := top 40
abbrev s_L_less : Stmt := top 41
abbrev s_L_sum : Stmt := top 42
abbrev s_L_times : Stmt := top 43
abbrev s_L_over : Stmt := top 44
abbrev s_L_lot : Stmt := top 45
abbrev s_L_line : Stmt := top 47
abbrev s_L_bad_lot : Stmt := top 48
abbrev s_L_due : Stmt := top 49
abbrev s_L_malformed : Stmt := top 50
abbrev s_law : Stmt := top 51
def m_is_whole : MDef := ⟨1, ["value"], false, (.cons 
(.ret (.and (.isi1 (.var 0) "int") (.not (.isi1 (.var 0) "bool")))) .nil)⟩
def m_common : MDef := ⟨2, ["a", "b"], false, (.cons 
(.asg2 0 1 (.blt .abs (.cons (.var 0) .nil)) (.blt .abs (.cons (.var 1) .nil))) (.cons 
(.whl (.cmp .NotEq (.var 1) (.cint 0)) (.cons 
(.asg2 0 1 (.var 1) (.bin .Mod (.var 0) (.var 1))) .nil)) (.cons 
(.ret (.var 0)) .nil)))⟩
def m_lowest : MDef := ⟨2, ["n", "d", "g"], false, (.cons 
(.asg 2 (.call "common" (.cons (.var 0) (.cons (.var 1) .nil)))) (.cons 
(.ife (.cmp .Lt (.var 1) (.cint 0)) (.cons 
(.asg 2 (.neg (.var 2))) .nil) .nil) (.cons 
(.ret (.tup (.cons (.bin .FloorDiv (.var 0) (.var 2)) (.cons (.bin .FloorDiv (.var 1) (.var 2)) .nil)))) .nil)))⟩
def m_is_ratio : MDef := ⟨1, ["value"], false, (.cons 
(.ife (.or (.not (.isi1 (.var 0) "tuple")) (.or (.cmp .NotEq (.blt .len (.cons (.var 0) .nil)) (.cint 2)) (.or (.not (.call "is_whole" (.cons (.idx (.var 0) (.cint 0)) .nil))) (.not (.call "is_whole" (.cons (.idx (.var 0) (.cint 1)) .nil)))))) (.cons 
(.ret (.cbl false)) .nil) .nil) (.cons 
(.ret (.and (.cmp .Gt (.idx (.var 0) (.cint 1)) (.cint 0)) (.cmp .Eq (.call "common" (.cons (.idx (.var 0) (.cint 0)) (.cons (.idx (.var 0) (.cint 1)) .nil))) (.cint 1)))) .nil))⟩
def m_plus : MDef := ⟨2, ["a", "b"], false, (.cons 
(.ret (.call "lowest" (.cons (.bin .Add (.bin .Mult (.idx (.var 0) (.cint 0)) (.idx (.var 1) (.cint 1))) (.bin .Mult (.idx (.var 1) (.cint 0)) (.idx (.var 0) (.cint 1)))) (.cons (.bin .Mult (.idx (.var 0) (.cint 1)) (.idx (.var 1) (.cint 1))) .nil)))) .nil)⟩
def m_minus : MDef := ⟨2, ["a", "b"], false, (.cons 
(.ret (.call "lowest" (.cons (.bin .Sub (.bin .Mult (.idx (.var 0) (.cint 0)) (.idx (.var 1) (.cint 1))) (.bin .Mult (.idx (.var 1) (.cint 0)) (.idx (.var 0) (.cint 1)))) (.cons (.bin .Mult (.idx (.var 0) (.cint 1)) (.idx (.var 1) (.cint 1))) .nil)))) .nil)⟩
def m_times : MDef := ⟨2, ["a", "b"], false, (.cons 
(.ret (.call "lowest" (.cons (.bin .Mult (.idx (.var 0) (.cint 0)) (.idx (.var 1) (.cint 0))) (.cons (.bin .Mult (.idx (.var 0) (.cint 1)) (.idx (.var 1) (.cint 1))) .nil)))) .nil)⟩
def m_over : MDef := ⟨2, ["a", "b"], false, (.cons 
(.ife (.cmp .Eq (.idx (.var 1) (.cint 0)) (.cint 0)) (.cons 
(.rais "Malformed" "zero") .nil) .nil) (.cons 
(.ret (.call "lowest" (.cons (.bin .Mult (.idx (.var 0) (.cint 0)) (.idx (.var 1) (.cint 1))) (.cons (.bin .Mult (.idx (.var 0) (.cint 1)) (.idx (.var 1) (.cint 0))) .nil)))) .nil))⟩
def m_below : MDef := ⟨2, ["a", "b"], false, (.cons 
(.ret (.cmp .Lt (.bin .Mult (.idx (.var 0) (.cint 0)) (.idx (.var 1) (.cint 1))) (.bin .Mult (.idx (.var 1) (.cint 0)) (.idx (.var 0) (.cint 1))))) .nil)⟩
def m_total : MDef := ⟨1, ["items", "found", "item"], false, (.cons 
(.asg 1 (.gl "ZERO")) (.cons 
(.for_ (.nm 2) (.over (.var 0)) (.cons 
(.ife (.cmp .NotEq (.idx (.var 2) (.cint 0)) (.cint 0)) (.cons 
(.asg 1 (.call "plus" (.cons (.var 1) (.cons (.var 2) .nil)))) .nil) .nil) .nil)) (.cons 
(.ret (.var 1)) .nil)))⟩
def m_is_income : MDef := ⟨1, ["value"], false, (.cons 
(.ret (.and (.call "is_whole" (.cons (.var 0) .nil)) (.cmp2 .LtE .LtE (.cint 1) (.var 0) (.gl "MOST_INCOME")))) .nil)⟩
def m_is_lot : MDef := ⟨1, ["value", "item", "k"], false, (.cons 
(.ife (.or (.not (.isi1 (.var 0) "tuple")) (.not (.cmp2 .LtE .LtE (.cint 1) (.blt .len (.cons (.var 0) .nil)) (.gl "MOST_PEOPLE")))) (.cons 
(.ret (.cbl false)) .nil) .nil) (.cons 
(.ife (.not (.blt .all (.cons (.lc [1] (.nm 1) (.over (.var 0)) .none (.call "is_income" (.cons (.var 1) .nil))) .nil))) (.cons 
(.ret (.cbl false)) .nil) .nil) (.cons 
(.ret (.blt .all (.cons (.lc [2] (.nm 2) (.rng2 (.cint 1) (.blt .len (.cons (.var 0) .nil))) .none (.cmp .LtE (.idx (.var 0) (.bin .Sub (.var 2) (.cint 1))) (.idx (.var 0) (.var 2)))) .nil))) .nil)))⟩
def m_check_lot : MDef := ⟨1, ["value"], false, (.cons 
(.ife (.not (.call "is_lot" (.cons (.var 0) .nil))) (.cons 
(.rais "Malformed" "no lot") .nil) .nil) .nil)⟩
def m_is_line : MDef := ⟨1, ["value"], false, (.cons 
(.ret (.and (.call "is_ratio" (.cons (.var 0) .nil)) (.cmp .Gt (.idx (.var 0) (.cint 0)) (.cint 0)))) .nil)⟩
def m_check_line : MDef := ⟨1, ["line"], false, (.cons 
(.ife (.not (.call "is_line" (.cons (.var 0) .nil))) (.cons 
(.rais "Malformed" "no line") .nil) .nil) .nil)⟩
def m_check_poor_word : MDef := ⟨2, ["word", "words"], false, (.cons 
(.ife (.or (.not (.isi1 (.var 0) "str")) (.cmp .NotIn (.var 0) (.var 1))) (.cons 
(.rais "Malformed" "no word") .nil) .nil) .nil)⟩
def m_lacks : MDef := ⟨2, ["lot", "line", "item"], true, (.cons 
(.ret (.lc [2] (.nm 2) (.over (.var 0)) (.some (.call "below" (.cons (.tup (.cons (.var 2) (.cons (.cint 1) .nil))) (.cons (.var 1) .nil)))) (.call "minus" (.cons (.var 1) (.cons (.tup (.cons (.var 2) (.cons (.cint 1) .nil))) .nil))))) .nil)⟩
def m_lack_sum : MDef := ⟨3, ["lot", "line", "word", "found", "items", "item"], false, (.cons 
(.asg 3 (.call "lacks" (.cons (.var 0) (.cons (.var 1) .nil)))) (.cons 
(.ife (.cmp .Eq (.var 2) (.cstr "count")) (.cons 
(.ret (.call "lowest" (.cons (.blt .len (.cons (.var 3) .nil)) (.cons (.blt .len (.cons (.var 0) .nil)) .nil)))) .nil) .nil) (.cons 
(.asg 4 (.ife (.cmp .Eq (.var 2) (.cstr "gap")) (.var 3) (.lc [5] (.nm 5) (.over (.var 3)) .none (.call "times" (.cons (.var 5) (.cons (.var 5) .nil)))))) (.cons 
(.ret (.call "times" (.cons (.call "total" (.cons (.var 4) .nil)) (.cons (.tup (.cons (.cint 1) (.cons (.blt .len (.cons (.var 0) .nil)) .nil))) .nil)))) .nil))))⟩
def m_poverty_of : MDef := ⟨3, ["lot", "line", "word", "found", "many", "weighted", "k", "item"], false, (.cons 
(.ife (.cmp .Eq (.var 2) (.cstr "count")) (.cons 
(.ret (.call "lack_sum" (.cons (.var 0) (.cons (.var 1) (.cons (.var 2) .nil))))) .nil) .nil) (.cons 
(.ife (.cmp .Eq (.var 2) (.cstr "gap")) (.cons 
(.ret (.call "over" (.cons (.call "lack_sum" (.cons (.var 0) (.cons (.var 1) (.cons (.var 2) .nil)))) (.cons (.var 1) .nil)))) .nil) .nil) (.cons 
(.ife (.cmp .Eq (.var 2) (.cstr "square")) (.cons 
(.ret (.call "over" (.cons (.call "lack_sum" (.cons (.var 0) (.cons (.var 1) (.cons (.var 2) .nil)))) (.cons (.call "times" (.cons (.var 1) (.cons (.var 1) .nil))) .nil)))) .nil) .nil) (.cons 
(.asg 3 (.call "lacks" (.cons (.var 0) (.cons (.var 1) .nil)))) (.cons 
(.asg 4 (.blt .len (.cons (.var 3) .nil))) (.cons 
(.asg 5 (.call "total" (.cons (.lc [6, 7] (.tp (.cons (.nm 6) (.cons (.nm 7) .nil))) (.enm (.var 3)) .none (.call "times" (.cons (.var 7) (.cons (.tup (.cons (.bin .Sub (.var 4) (.var 6)) (.cons (.cint 1) .nil))) .nil)))) .nil))) (.cons 
(.ret (.call "over" (.cons (.call "times" (.cons (.var 5) (.cons (.tup (.cons (.cint 2) (.cons (.cint 1) .nil))) .nil))) (.cons (.call "times" (.cons (.var 1) (.cons (.tup (.cons (.bin .Mult (.bin .Add (.var 4) (.cint 1)) (.blt .len (.cons (.var 0) .nil))) (.cons (.cint 1) .nil))) .nil))) .nil)))) .nil)))))))⟩
def m_poverty : MDef := ⟨3, ["lot", "line", "word"], false, (.cons 
(.drop (.call "check_lot" (.cons (.var 0) .nil))) (.cons 
(.drop (.call "check_line" (.cons (.var 1) .nil))) (.cons 
(.drop (.call "check_poor_word" (.cons (.var 2) (.cons (.gl "POOR_WORDS") .nil)))) (.cons 
(.ret (.call "poverty_of" (.cons (.var 0) (.cons (.var 1) (.cons (.var 2) .nil))))) .nil))))⟩
def m_are_groups : MDef := ⟨1, ["value", "lot"], false, (.cons 
(.ife (.or (.not (.isi1 (.var 0) "tuple")) (.or (.not (.cmp2 .LtE .LtE (.cint 1) (.blt .len (.cons (.var 0) .nil)) (.gl "MOST_GROUPS"))) (.not (.blt .all (.cons (.lc [1] (.nm 1) (.over (.var 0)) .none (.call "is_lot" (.cons (.var 1) .nil))) .nil))))) (.cons 
(.ret (.cbl false)) .nil) .nil) (.cons 
(.ret (.cmp .LtE (.blt .sum (.cons (.lc [1] (.nm 1) (.over (.var 0)) .none (.blt .len (.cons (.var 1) .nil))) .nil)) (.cint 40))) .nil))⟩
def m_check_groups : MDef := ⟨1, ["value"], false, (.cons 
(.ife (.not (.call "are_groups" (.cons (.var 0) .nil))) (.cons 
(.rais "Malformed" "no groups") .nil) .nil) .nil)⟩
def m_poverty_parts : MDef := ⟨3, ["groups", "line", "word", "people", "lot"], false, (.cons 
(.drop (.call "check_groups" (.cons (.var 0) .nil))) (.cons 
(.drop (.call "check_line" (.cons (.var 1) .nil))) (.cons 
(.drop (.call "check_poor_word" (.cons (.var 2) (.cons (.gl "LINE_WORDS") .nil)))) (.cons 
(.asg 3 (.blt .sum (.cons (.lc [4] (.nm 4) (.over (.var 0)) .none (.blt .len (.cons (.var 4) .nil))) .nil))) (.cons 
(.ret (.blt .tuple (.cons (.lc [4] (.nm 4) (.over (.var 0)) .none (.call "times" (.cons (.call "poverty_of" (.cons (.var 4) (.cons (.var 1) (.cons (.var 2) .nil)))) (.cons (.call "lowest" (.cons (.blt .len (.cons (.var 4) .nil)) (.cons (.var 3) .nil))) .nil)))) .nil))) .nil)))))⟩
def m_L_draw : MDef := ⟨1, ["script", "seed", "cell"], true, (.cons 
(.asg 1 (.cint 7)) (.cons 
(.for_ (.nm 2) (.over (.var 0)) (.cons 
(.asg 1 (.bin .Mod (.blt .int (.cons (.bin .Add (.bin .Add (.bin .Mult (.var 1) (.cint 48271)) (.bin .Mod (.blt .abs (.cons (.blt .int (.cons (.var 2) .nil)) .nil)) (.cint 65521))) (.cint 1)) .nil)) (.cint 2147483647))) .nil)) (.cons 
(.ret (.lst (.cons (.lc [2] (.nm 2) (.over (.var 0)) .none (.blt .abs (.cons (.blt .int (.cons (.var 2) .nil)) .nil))) (.cons (.neg (.cint 1)) (.cons (.cint 0) (.cons (.var 1) .nil)))))) .nil)))⟩
def m_L_take : MDef := ⟨2, ["draw", "many", "found"], false, (.cons 
(.ife (.cmp .Eq (.idx (.var 0) (.cint 2)) (.cint 0)) (.cons 
(.setI 0 (.cint 1) (.bin .Add (.idx (.var 0) (.cint 1)) (.cint 1))) (.cons 
(.ife (.cmp .Lt (.idx (.var 0) (.cint 1)) (.blt .len (.cons (.idx (.var 0) (.cint 0)) .nil))) (.cons 
(.setI 0 (.cint 2) (.idx (.idx (.var 0) (.cint 0)) (.idx (.var 0) (.cint 1)))) .nil) .nil) (.cons 
(.ife (.cmp .Eq (.idx (.var 0) (.cint 2)) (.cint 0)) (.cons 
(.setI 0 (.cint 3) (.bin .Mod (.blt .int (.cons (.bin .Add (.bin .Mult (.idx (.var 0) (.cint 3)) (.cint 48271)) (.cint 11)) .nil)) (.cint 2147483647))) (.cons 
(.setI 0 (.cint 2) (.idx (.var 0) (.cint 3))) .nil)) .nil) .nil))) .nil) (.cons 
(.asg 2 (.bin .Mod (.blt .int (.cons (.idx (.var 0) (.cint 2)) .nil)) (.var 1))) (.cons 
(.setI 0 (.cint 2) (.bin .FloorDiv (.idx (.var 0) (.cint 2)) (.var 1))) (.cons 
(.ret (.var 2)) .nil))))⟩
def m_L_fraction : MDef := ⟨2, ["n", "d", "x", "y"], false, (.cons 
(.asg2 2 3 (.blt .abs (.cons (.var 0) .nil)) (.blt .abs (.cons (.var 1) .nil))) (.cons 
(.whl (.cmp .NotEq (.var 3) (.cint 0)) (.cons 
(.asg2 2 3 (.var 3) (.bin .Mod (.blt .int (.cons (.var 2) .nil)) (.var 3))) .nil)) (.cons 
(.ret (.ife (.cmp .Gt (.var 1) (.cint 0)) (.tup (.cons (.bin .FloorDiv (.var 0) (.var 2)) (.cons (.bin .FloorDiv (.var 1) (.var 2)) .nil))) (.tup (.cons (.bin .FloorDiv (.neg (.var 0)) (.var 2)) (.cons (.bin .FloorDiv (.neg (.var 1)) (.var 2)) .nil))))) .nil)))⟩
def m_L_plus : MDef := ⟨2, ["a", "b"], false, (.cons 
(.ret (.call "_law_fraction" (.cons (.bin .Add (.bin .Mult (.idx (.var 0) (.cint 0)) (.idx (.var 1) (.cint 1))) (.bin .Mult (.idx (.var 1) (.cint 0)) (.idx (.var 0) (.cint 1)))) (.cons (.bin .Mult (.idx (.var 0) (.cint 1)) (.idx (.var 1) (.cint 1))) .nil)))) .nil)⟩
def m_L_minus : MDef := ⟨2, ["a", "b"], false, (.cons 
(.ret (.call "_law_fraction" (.cons (.bin .Sub (.bin .Mult (.idx (.var 0) (.cint 0)) (.idx (.var 1) (.cint 1))) (.bin .Mult (.idx (.var 1) (.cint 0)) (.idx (.var 0) (.cint 1)))) (.cons (.bin .Mult (.idx (.var 0) (.cint 1)) (.idx (.var 1) (.cint 1))) .nil)))) .nil)⟩
def m_L_less : MDef := ⟨2, ["a", "b"], false, (.cons 
(.ret (.cmp .Lt (.bin .Mult (.idx (.var 0) (.cint 0)) (.idx (.var 1) (.cint 1))) (.bin .Mult (.idx (.var 1) (.cint 0)) (.idx (.var 0) (.cint 1))))) .nil)⟩
def m_L_sum : MDef := ⟨1, ["items", "found", "item"], false, (.cons 
(.asg 1 (.tup (.cons (.cint 0) (.cons (.cint 1) .nil)))) (.cons 
(.for_ (.nm 2) (.over (.var 0)) (.cons 
(.asg 1 (.call "_law_plus" (.cons (.var 1) (.cons (.var 2) .nil)))) .nil)) (.cons 
(.ret (.var 1)) .nil)))⟩
def m_L_times : MDef := ⟨2, ["a", "b"], false, (.cons 
(.ret (.call "_law_fraction" (.cons (.bin .Mult (.idx (.var 0) (.cint 0)) (.idx (.var 1) (.cint 0))) (.cons (.bin .Mult (.idx (.var 0) (.cint 1)) (.idx (.var 1) (.cint 1))) .nil)))) .nil)⟩
def m_L_over : MDef := ⟨2, ["a", "b"], false, (.cons 
(.ret (.call "_law_fraction" (.cons (.bin .Mult (.idx (.var 0) (.cint 0)) (.idx (.var 1) (.cint 1))) (.cons (.bin .Mult (.idx (.var 0) (.cint 1)) (.idx (.var 1) (.cint 0))) .nil)))) .nil)⟩
def m_L_lot : MDef := ⟨3, ["draw", "people", "most", "top", "bases", "k", "found"], false, (.cons 
(.asg 3 (.idx (.lst (.cons (.cint 4) (.cons (.cint 9) (.cons (.cint 30) (.cons (.cint 1000) (.cons (.cint 1000000) .nil)))))) (.call "_law_take" (.cons (.var 0) (.cons (.cint 5) .nil))))) (.cons 
(.asg 3 (.blt .min (.cons (.var 3) (.cons (.var 2) .nil)))) (.cons 
(.asg 4 (.lc [5] (.nm 5) (.rng1 (.bin .Add (.cint 1) (.call "_law_take" (.cons (.var 0) (.cons (.cint 4) .nil))))) .none (.bin .Add (.cint 1) (.call "_law_take" (.cons (.var 0) (.cons (.var 3) .nil)))))) (.cons 
(.asgN 6 (.lst .nil)) (.cons 
(.for_ (.nm 5) (.rng1 (.bin .Add (.cint 1) (.call "_law_take" (.cons (.var 0) (.cons (.var 1) .nil))))) (.cons 
(.app 6 (.ife (.cmp .Gt (.call "_law_take" (.cons (.var 0) (.cons (.cint 3) .nil))) (.cint 0)) (.idx (.var 4) (.call "_law_take" (.cons (.var 0) (.cons (.blt .len (.cons (.var 4) .nil)) .nil)))) (.bin .Add (.cint 1) (.call "_law_take" (.cons (.var 0) (.cons (.var 3) .nil)))))) .nil)) (.cons 
(.ret (.blt .tuple (.cons (.blt .sorted (.cons (.var 6) .nil)) .nil))) .nil))))))⟩
def m_L_line : MDef := ⟨2, ["draw", "lot", "item", "kind"], false, (.cons 
(.asg 2 (.idx (.var 1) (.call "_law_take" (.cons (.var 0) (.cons (.blt .len (.cons (.var 1) .nil)) .nil))))) (.cons 
(.asg 3 (.call "_law_take" (.cons (.var 0) (.cons (.cint 5) .nil)))) (.cons 
(.ife (.cmp .Lt (.var 3) (.cint 2)) (.cons 
(.ret (.tup (.cons (.var 2) (.cons (.cint 1) .nil)))) .nil) .nil) (.cons 
(.ife (.cmp .Eq (.var 3) (.cint 2)) (.cons 
(.ret (.call "_law_fraction" (.cons (.bin .Add (.bin .Add (.bin .Mult (.var 2) (.cint 7)) (.cint 1)) (.call "_law_take" (.cons (.var 0) (.cons (.cint 6) .nil)))) (.cons (.cint 7) .nil)))) .nil) .nil) (.cons 
(.ife (.cmp .Eq (.var 3) (.cint 3)) (.cons 
(.ret (.call "_law_fraction" (.cons (.bin .Add (.cint 1) (.call "_law_take" (.cons (.var 0) (.cons (.bin .Mult (.cint 3) (.var 2)) .nil)))) (.cons (.bin .Add (.cint 1) (.call "_law_take" (.cons (.var 0) (.cons (.cint 4) .nil)))) .nil)))) .nil) .nil) (.cons 
(.ret (.call "_law_fraction" (.cons (.bin .Add (.cint 1) (.call "_law_take" (.cons (.var 0) (.cons (.bin .Add (.bin .Mult (.cint 2) (.idx (.var 1) (.neg (.cint 1)))) (.cint 1)) .nil)))) (.cons (.bin .Add (.cint 1) (.call "_law_take" (.cons (.var 0) (.cons (.cint 3) .nil)))) .nil)))) .nil))))))⟩
def m_L_bad_lot : MDef := ⟨2, ["draw", "lot", "found"], false, (.cons 
(.asg 2 (.lst (.cons .cnon (.cons (.tup .nil) (.cons (.cint 5) (.cons (.blt .list (.cons (.var 1) .nil)) (.cons (.bin .Add (.tup (.cons (.cint 0) .nil)) (.var 1)) (.cons (.bin .Add (.var 1) (.tup (.cons (.cint 1000001) .nil))) (.cons (.bin .Add (.var 1) (.tup (.cons (.cbl true) .nil))) (.cons (.tup (.cons (.var 1) .nil)) (.cons (.tup (.cons (.cstr "1") .nil)) (.cons (.bin .Add (.slc (.var 1) .none (.some (.neg (.cint 1)))) (.tup (.cons .cnon .nil))) (.cons (.bin .Mult (.tup (.cons (.cint 1) .nil)) (.cint 41)) (.cons (.tup (.cons (.cint 2) (.cons (.cint 1) .nil))) (.cons (.bin .Add (.tup (.cons (.neg (.cint 1)) .nil)) (.var 1)) .nil))))))))))))))) (.cons 
(.ret (.idx (.var 2) (.call "_law_take" (.cons (.var 0) (.cons (.cint 13) .nil))))) .nil))⟩
def m_L_due : MDef := ⟨3, ["lot", "line", "word", "poor", "item", "bottom", "found", "k", "lack"], false, (.cons 
(.asg 3 (.lc [4] (.nm 4) (.over (.var 0)) (.some (.call "_law_less" (.cons (.tup (.cons (.var 4) (.cons (.cint 1) .nil))) (.cons (.var 1) .nil)))) (.var 4))) (.cons 
(.asg 5 (.call "_law_times" (.cons (.var 1) (.cons (.tup (.cons (.blt .len (.cons (.var 0) .nil)) (.cons (.cint 1) .nil))) .nil)))) (.cons 
(.asg 6 (.tup (.cons (.cint 0) (.cons (.cint 1) .nil)))) (.cons 
(.for_ (.nm 7) (.rng1 (.blt .len (.cons (.var 3) .nil))) (.cons 
(.asg 8 (.call "_law_minus" (.cons (.var 1) (.cons (.tup (.cons (.idx (.var 3) (.var 7)) (.cons (.cint 1) .nil))) .nil)))) (.cons 
(.ife (.cmp .Eq (.var 2) (.cstr "count")) (.cons 
(.asg 6 (.call "_law_plus" (.cons (.var 6) (.cons (.var 1) .nil)))) .nil) (.cons 
(.ife (.cmp .Eq (.var 2) (.cstr "gap")) (.cons 
(.asg 6 (.call "_law_plus" (.cons (.var 6) (.cons (.var 8) .nil)))) .nil) (.cons 
(.ife (.cmp .Eq (.var 2) (.cstr "square")) (.cons 
(.asg 6 (.call "_law_plus" (.cons (.var 6) (.cons (.call "_law_over" (.cons (.call "_law_times" (.cons (.var 8) (.cons (.var 8) .nil))) (.cons (.var 1) .nil))) .nil)))) .nil) (.cons 
(.asg 6 (.call "_law_plus" (.cons (.var 6) (.cons (.call "_law_times" (.cons (.var 8) (.cons (.call "_law_fraction" (.cons (.bin .Mult (.cint 2) (.bin .Sub (.blt .len (.cons (.var 3) .nil)) (.var 7))) (.cons (.bin .Add (.blt .len (.cons (.var 3) .nil)) (.cint 1)) .nil))) .nil))) .nil)))) .nil)) .nil)) .nil)) .nil))) (.cons 
(.ret (.call "_law_over" (.cons (.var 6) (.cons (.var 5) .nil)))) .nil)))))⟩
def m_L_malformed : MDef := ⟨4, ["which", "lot", "line", "word", "e"], false, (.cons 
(.tryR (.cons 
(.ife (.cmp .Eq (.var 0) (.cint 0)) (.cons 
(.drop (.call "poverty" (.cons (.var 1) (.cons (.var 2) (.cons (.var 3) .nil))))) .nil) (.cons 
(.drop (.call "poverty_parts" (.cons (.var 1) (.cons (.var 2) (.cons (.var 3) .nil))))) .nil)) .nil) "Malformed" 4 (.and (.is "Fault") (.is "ValueError"))) (.cons 
(.ret (.cbl false)) .nil))⟩
def m_law : MDef := ⟨1, ["script", "draw", "lot", "turn", "line", "word", "groups", "k", "people", "part", "told", "due", "everyone", "bad", "strange", "none", "wrong"], false, (.cons 
(.asgN 1 (.call "_law_draw" (.cons (.var 0) .nil))) (.cons 
(.asg 2 (.call "_law_lot" (.cons (.var 1) (.cons (.ife (.cmp .Eq (.call "_law_take" (.cons (.var 1) (.cons (.cint 6) .nil))) (.cint 0)) (.cint 40) (.cint 7)) (.cons (.cint 1000000) .nil))))) (.cons 
(.for_ (.nm 3) (.rng1 (.cint 3)) (.cons 
(.asg 4 (.call "_law_line" (.cons (.var 1) (.cons (.var 2) .nil)))) (.cons 
(.for_ (.nm 5) (.over (.lst (.cons (.cstr "count") (.cons (.cstr "gap") (.cons (.cstr "square") (.cons (.cstr "sen") .nil)))))) (.cons 
(.ife (.cmp .NotEq (.call "poverty" (.cons (.var 2) (.cons (.var 4) (.cons (.var 5) .nil)))) (.call "_law_due" (.cons (.var 2) (.cons (.var 4) (.cons (.var 5) .nil))))) (.cons 
(.ret (.cbl false)) .nil) .nil) .nil)) .nil))) (.cons 
(.asg 6 (.blt .tuple (.cons (.lc [7] (.nm 7) (.rng1 (.bin .Add (.cint 1) (.call "_law_take" (.cons (.var 1) (.cons (.cint 4) .nil))))) .none (.call "_law_lot" (.cons (.var 1) (.cons (.cint 9) (.cons (.cint 1000000) .nil))))) .nil))) (.cons 
(.asg 8 (.blt .sum (.cons (.lc [9] (.nm 9) (.over (.var 6)) .none (.blt .len (.cons (.var 9) .nil))) .nil))) (.cons 
(.asg 4 (.call "_law_line" (.cons (.var 1) (.cons (.idx (.var 6) (.call "_law_take" (.cons (.var 1) (.cons (.blt .len (.cons (.var 6) .nil)) .nil)))) .nil)))) (.cons 
(.for_ (.nm 5) (.over (.lst (.cons (.cstr "count") (.cons (.cstr "gap") (.cons (.cstr "square") .nil))))) (.cons 
(.asg 10 (.call "poverty_parts" (.cons (.var 6) (.cons (.var 4) (.cons (.var 5) .nil))))) (.cons 
(.asg 11 (.blt .tuple (.cons (.lc [9] (.nm 9) (.over (.var 6)) .none (.call "_law_times" (.cons (.call "_law_due" (.cons (.var 9) (.cons (.var 4) (.cons (.var 5) .nil)))) (.cons (.call "_law_fraction" (.cons (.blt .len (.cons (.var 9) .nil)) (.cons (.var 8) .nil))) .nil)))) .nil))) (.cons 
(.ife (.cmp .NotEq (.var 10) (.var 11)) (.cons 
(.ret (.cbl false)) .nil) .nil) (.cons 
(.asg 12 (.lst .nil)) (.cons 
(.for_ (.nm 9) (.over (.var 6)) (.cons 
(.asg 12 (.bin .Add (.var 12) (.blt .list (.cons (.var 9) .nil)))) .nil)) (.cons 
(.ife (.cmp .NotEq (.call "_law_sum" (.cons (.var 10) .nil)) (.call "_law_due" (.cons (.blt .tuple (.cons (.blt .sorted (.cons (.var 12) .nil)) .nil)) (.cons (.var 4) (.cons (.var 5) .nil))))) (.cons 
(.ret (.cbl false)) .nil) .nil) .nil))))))) (.cons 
(.asg 13 (.idx (.lst (.cons .cnon (.cons (.tup (.cons (.cint 0) (.cons (.cint 1) .nil))) (.cons (.tup (.cons (.neg (.cint 1)) (.cons (.cint 2) .nil))) (.cons (.tup (.cons (.cint 2) (.cons (.cint 4) .nil))) (.cons (.cint 3) (.cons (.tup (.cons (.cint 1) (.cons (.cint 0) .nil))) (.cons (.tup (.cons (.cbl true) (.cons (.cint 1) .nil))) (.cons (.tup (.cons (.cint 1) (.cons (.cint 1) (.cons (.cint 1) .nil)))) (.cons (.lst (.cons (.cint 1) (.cons (.cint 1) .nil))) .nil)))))))))) (.call "_law_take" (.cons (.var 1) (.cons (.cint 9) .nil))))) (.cons 
(.asg 14 (.idx (.lst (.cons .cnon (.cons (.cstr "") (.cons (.cstr "Count") (.cons (.cstr "poor") (.cons (.cint 0) (.cons (.tup (.cons (.cstr "gap") .nil)) .nil))))))) (.call "_law_take" (.cons (.var 1) (.cons (.cint 6) .nil))))) (.cons 
(.asg 15 (.call "_law_bad_lot" (.cons (.var 1) (.cons (.var 2) .nil)))) (.cons 
(.ife (.or (.not (.call "_law_malformed" (.cons (.cint 0) (.cons (.var 15) (.cons (.var 4) (.cons (.cstr "gap") .nil)))))) (.or (.not (.call "_law_malformed" (.cons (.cint 0) (.cons (.var 2) (.cons (.var 13) (.cons (.cstr "sen") .nil)))))) (.not (.call "_law_malformed" (.cons (.cint 0) (.cons (.var 2) (.cons (.var 4) (.cons (.var 14) .nil)))))))) (.cons 
(.ret (.cbl false)) .nil) .nil) (.cons 
(.asg 16 (.idx (.lst (.cons .cnon (.cons (.tup .nil) (.cons (.tup (.cons (.var 15) .nil)) (.cons (.var 2) (.cons (.lst (.cons (.var 2) .nil)) (.cons (.bin .Mult (.tup (.cons (.slc (.var 2) .none (.some (.cint 1))) .nil)) (.cint 11)) (.cons (.tup (.cons (.bin .Mult (.tup (.cons (.cint 1) .nil)) (.cint 21)) (.cons (.bin .Mult (.tup (.cons (.cint 1) .nil)) (.cint 20)) .nil))) (.cons (.tup (.cons (.var 2) (.cons (.var 15) .nil))) .nil))))))))) (.call "_law_take" (.cons (.var 1) (.cons (.cint 8) .nil))))) (.cons 
(.ife (.or (.not (.call "_law_malformed" (.cons (.cint 1) (.cons (.var 16) (.cons (.var 4) (.cons (.cstr "count") .nil)))))) (.not (.call "_law_malformed" (.cons (.cint 1) (.cons (.var 6) (.cons (.var 4) (.cons (.cstr "sen") .nil))))))) (.cons 
(.ret (.cbl false)) .nil) .nil) (.cons 
(.ret (.and (.call "_law_malformed" (.cons (.cint 1) (.cons (.var 6) (.cons (.var 13) (.cons (.cstr "gap") .nil))))) (.call "_law_malformed" (.cons (.cint 1) (.cons (.var 6) (.cons (.var 4) (.cons (.var 14) .nil))))))) .nil))))))))))))))⟩
def table : List (Str × MDef) := [(Str.ofString "is_whole", m_is_whole), (Str.ofString "common", m_common), (Str.ofString "lowest", m_lowest), (Str.ofString "is_ratio", m_is_ratio), (Str.ofString "plus", m_plus), (Str.ofString "minus", m_minus), (Str.ofString "times", m_times), (Str.ofString "over", m_over), (Str.ofString "below", m_below), (Str.ofString "total", m_total), (Str.ofString "is_income", m_is_income), (Str.ofString "is_lot", m_is_lot), (Str.ofString "check_lot", m_check_lot), (Str.ofString "is_line", m_is_line), (Str.ofString "check_line", m_check_line), (Str.ofString "check_poor_word", m_check_poor_word), (Str.ofString "lacks", m_lacks), (Str.ofString "lack_sum", m_lack_sum), (Str.ofString "poverty_of", m_poverty_of), (Str.ofString "poverty", m_poverty), (Str.ofString "are_groups", m_are_groups), (Str.ofString "check_groups", m_check_groups), (Str.ofString "poverty_parts", m_poverty_parts), (Str.ofString "_law_draw", m_L_draw), (Str.ofString "_law_take", m_L_take), (Str.ofString "_law_fraction", m_L_fraction), (Str.ofString "_law_plus", m_L_plus), (Str.ofString "_law_minus", m_L_minus), (Str.ofString "_law_less", m_L_less), (Str.ofString "_law_sum", m_L_sum), (Str.ofString "_law_times", m_L_times), (Str.ofString "_law_over", m_L_over), (Str.ofString "_law_lot", m_L_lot), (Str.ofString "_law_line", m_L_line), (Str.ofString "_law_bad_lot", m_L_bad_lot), (Str.ofString "_law_due", m_L_due), (Str.ofString "_law_malformed", m_L_malformed), (Str.ofString "law", m_law)]
def gls : List (Str × D) := [(Str.ofString "ZERO", (.tuple [(.int 0), (.int 1)])), (Str.ofString "MOST_PEOPLE", (.int 40)), (Str.ofString "MOST_INCOME", (.int 1000000)), (Str.ofString "LINE_WORDS", (.tuple [(.str "count"), (.str "gap"), (.str "square")])), (Str.ofString "POOR_WORDS", (.tuple [(.str "count"), (.str "gap"), (.str "square"), (.str "sen")])), (Str.ofString "MOST_GROUPS", (.int 10))]
def xms : List ((Str × Str) × Bool) := [((Str.ofString "Fault", Str.ofString "Fault"), true), ((Str.ofString "Fault", Str.ofString "Malformed"), false), ((Str.ofString "Malformed", Str.ofString "Fault"), true), ((Str.ofString "Malformed", Str.ofString "Malformed"), true)]
def xis : List ((Str × Str) × Bool) := [((Str.ofString "Malformed", Str.ofString "Fault"), true), ((Str.ofString "Malformed", Str.ofString "ValueError"), true)]
def fsB : Str → Bool := fun f => table.any (·.1 == f)
def xsB : Str → Bool := fun x => (["Fault", "Malformed"] : List Str).contains x
def tab : Tab := ⟨fun f => (table.find? (·.1 == f)).map (·.2), fun x => ((gls.find? (·.1 == x)).map (·.2)).map Val.d, fun a b => (xms.find? (·.1 == (a, b))).map (·.2), fun a b => (xis.find? (·.1 == (a, b))).map (·.2)⟩
theorem ok_is_whole : okDef fsB xsB m_is_whole s_is_whole = true := by decide +kernel
theorem b_is_whole (kV doc pm : Value) (an : Option Addr) (cd ct : Value) (us : List Value) (hl : us.length = (m_is_whole.N.take m_is_whole.np).length) : bindArgs (PySem.W.fnOf "is_whole" "is_whole" (defArgs s_is_whole) (defBody s_is_whole) (defScope s_is_whole) .none kV doc pm an cd ct) ⟨us, []⟩ = pure ((m_is_whole.N.take m_is_whole.np).zip us) :=
  match us, hl with | [_], _ => rfl
theorem ok_common : okDef fsB xsB m_common s_common = true := by decide +kernel
theorem b_common (kV doc pm : Value) (an : Option Addr) (cd ct : Value) (us : List Value) (hl : us.length = (m_common.N.take m_common.np).length) : bindArgs (PySem.W.fnOf "common" "common" (defArgs s_common) (defBody s_common) (defScope s_common) .none kV doc pm an cd ct) ⟨us, []⟩ = pure ((m_common.N.take m_common.np).zip us) :=
  match us, hl with | [_, _], _ => rfl
theorem ok_lowest : okDef fsB xsB m_lowest s_lowest = true := by decide +kernel
theorem b_lowest (kV doc pm : Value) (an : Option Addr) (cd ct : Value) (us : List Value) (hl : us.length = (m_lowest.N.take m_lowest.np).length) : bindArgs (PySem.W.fnOf "lowest" "lowest" (defArgs s_lowest) (defBody s_lowest) (defScope s_lowest) .none kV doc pm an cd ct) ⟨us, []⟩ = pure ((m_lowest.N.take m_lowest.np).zip us) :=
  match us, hl with | [_, _], _ => rfl
theorem ok_is_ratio : okDef fsB xsB m_is_ratio s_is_ratio = true := by decide +kernel
theorem b_is_ratio (kV doc pm : Value) (an : Option Addr) (cd ct : Value) (us : List Value) (hl : us.length = (m_is_ratio.N.take m_is_ratio.np).length) : bindArgs (PySem.W.fnOf "is_ratio" "is_ratio" (defArgs s_is_ratio) (defBody s_is_ratio) (defScope s_is_ratio) .none kV doc pm an cd ct) ⟨us, []⟩ = pure ((m_is_ratio.N.take m_is_ratio.np).zip us) :=
  match us, hl with | [_], _ => rfl
theorem ok_plus : okDef fsB xsB m_plus s_plus = true := by decide +kernel
theorem b_plus (kV doc pm : Value) (an : Option Addr) (cd ct : Value) (us : List Value) (hl : us.length = (m_plus.N.take m_plus.np).length) : bindArgs (PySem.W.fnOf "plus" "plus" (defArgs s_plus) (defBody s_plus) (defScope s_plus) .none kV doc pm an cd ct) ⟨us, []⟩ = pure ((m_plus.N.take m_plus.np).zip us) :=
  match us, hl with | [_, _], _ => rfl
theorem ok_minus : okDef fsB xsB m_minus s_minus = true := by decide +kernel
theorem b_minus (kV doc pm : Value) (an : Option Addr) (cd ct : Value) (us : List Value) (hl : us.length = (m_minus.N.take m_minus.np).length) : bindArgs (PySem.W.fnOf "minus" "minus" (defArgs s_minus) (defBody s_minus) (defScope s_minus) .none kV doc pm an cd ct) ⟨us, []⟩ = pure ((m_minus.N.take m_minus.np).zip us) :=
  match us, hl with | [_, _], _ => rfl
theorem ok_times : okDef fsB xsB m_times s_times = true := by decide +kernel
theorem b_times (kV doc pm : Value) (an : Option Addr) (cd ct : Value) (us : List Value) (hl : us.length = (m_times.N.take m_times.np).length) : bindArgs (PySem.W.fnOf "times" "times" (defArgs s_times) (defBody s_times) (defScope s_times) .none kV doc pm an cd ct) ⟨us, []⟩ = pure ((m_times.N.take m_times.np).zip us) :=
  match us, hl with | [_, _], _ => rfl
theorem ok_over : okDef fsB xsB m_over s_over = true := by decide +kernel
theorem b_over (kV doc pm : Value) (an : Option Addr) (cd ct : Value) (us : List Value) (hl : us.length = (m_over.N.take m_over.np).length) : bindArgs (PySem.W.fnOf "over" "over" (defArgs s_over) (defBody s_over) (defScope s_over) .none kV doc pm an cd ct) ⟨us, []⟩ = pure ((m_over.N.take m_over.np).zip us) :=
  match us, hl with | [_, _], _ => rfl
theorem ok_below : okDef fsB xsB m_below s_below = true := by decide +kernel
theorem b_below (kV doc pm : Value) (an : Option Addr) (cd ct : Value) (us : List Value) (hl : us.length = (m_below.N.take m_below.np).length) : bindArgs (PySem.W.fnOf "below" "below" (defArgs s_below) (defBody s_below) (defScope s_below) .none kV doc pm an cd ct) ⟨us, []⟩ = pure ((m_below.N.take m_below.np).zip us) :=
  match us, hl with | [_, _], _ => rfl
theorem ok_total : okDef fsB xsB m_total s_total = true := by decide +kernel
theorem b_total (kV doc pm : Value) (an : Option Addr) (cd ct : Value) (us : List Value) (hl : us.length = (m_total.N.take m_total.np).length) : bindArgs (PySem.W.fnOf "total" "total" (defArgs s_total) (defBody s_total) (defScope s_total) .none kV doc pm an cd ct) ⟨us, []⟩ = pure ((m_total.N.take m_total.np).zip us) :=
  match us, hl with | [_], _ => rfl
theorem ok_is_income : okDef fsB xsB m_is_income s_is_income = true := by decide +kernel
theorem b_is_income (kV doc pm : Value) (an : Option Addr) (cd ct : Value) (us : List Value) (hl : us.length = (m_is_income.N.take m_is_income.np).length) : bindArgs (PySem.W.fnOf "is_income" "is_income" (defArgs s_is_income) (defBody s_is_income) (defScope s_is_income) .none kV doc pm an cd ct) ⟨us, []⟩ = pure ((m_is_income.N.take m_is_income.np).zip us) :=
  match us, hl with | [_], _ => rfl
theorem ok_is_lot : okDef fsB xsB m_is_lot s_is_lot = true := by decide +kernel
theorem b_is_lot (kV doc pm : Value) (an : Option Addr) (cd ct : Value) (us : List Value) (hl : us.length = (m_is_lot.N.take m_is_lot.np).length) : bindArgs (PySem.W.fnOf "is_lot" "is_lot" (defArgs s_is_lot) (defBody s_is_lot) (defScope s_is_lot) .none kV doc pm an cd ct) ⟨us, []⟩ = pure ((m_is_lot.N.take m_is_lot.np).zip us) :=
  match us, hl with | [_], _ => rfl
theorem ok_check_lot : okDef fsB xsB m_check_lot s_check_lot = true := by decide +kernel
theorem b_check_lot (kV doc pm : Value) (an : Option Addr) (cd ct : Value) (us : List Value) (hl : us.length = (m_check_lot.N.take m_check_lot.np).length) : bindArgs (PySem.W.fnOf "check_lot" "check_lot" (defArgs s_check_lot) (defBody s_check_lot) (defScope s_check_lot) .none kV doc pm an cd ct) ⟨us, []⟩ = pure ((m_check_lot.N.take m_check_lot.np).zip us) :=
  match us, hl with | [_], _ => rfl
theorem ok_is_line : okDef fsB xsB m_is_line s_is_line = true := by decide +kernel
theorem b_is_line (kV doc pm : Value) (an : Option Addr) (cd ct : Value) (us : List Value) (hl : us.length = (m_is_line.N.take m_is_line.np).length) : bindArgs (PySem.W.fnOf "is_line" "is_line" (defArgs s_is_line) (defBody s_is_line) (defScope s_is_line) .none kV doc pm an cd ct) ⟨us, []⟩ = pure ((m_is_line.N.take m_is_line.np).zip us) :=
  match us, hl with | [_], _ => rfl
theorem ok_check_line : okDef fsB xsB m_check_line s_check_line = true := by decide +kernel
theorem b_check_line (kV doc pm : Value) (an : Option Addr) (cd ct : Value) (us : List Value) (hl : us.length = (m_check_line.N.take m_check_line.np).length) : bindArgs (PySem.W.fnOf "check_line" "check_line" (defArgs s_check_line) (defBody s_check_line) (defScope s_check_line) .none kV doc pm an cd ct) ⟨us, []⟩ = pure ((m_check_line.N.take m_check_line.np).zip us) :=
  match us, hl with | [_], _ => rfl
theorem ok_check_poor_word : okDef fsB xsB m_check_poor_word s_check_poor_word = true := by decide +kernel
theorem b_check_poor_word (kV doc pm : Value) (an : Option Addr) (cd ct : Value) (us : List Value) (hl : us.length = (m_check_poor_word.N.take m_check_poor_word.np).length) : bindArgs (PySem.W.fnOf "check_poor_word" "check_poor_word" (defArgs s_check_poor_word) (defBody s_check_poor_word) (defScope s_check_poor_word) .none kV doc pm an cd ct) ⟨us, []⟩ = pure ((m_check_poor_word.N.take m_check_poor_word.np).zip us) :=
  match us, hl with | [_, _], _ => rfl
theorem ok_lacks : okDef fsB xsB m_lacks s_lacks = true := by decide +kernel
theorem b_lacks (kV doc pm : Value) (an : Option Addr) (cd ct : Value) (us : List Value) (hl : us.length = (m_lacks.N.take m_lacks.np).length) : bindArgs (PySem.W.fnOf "lacks" "lacks" (defArgs s_lacks) (defBody s_lacks) (defScope s_lacks) .none kV doc pm an cd ct) ⟨us, []⟩ = pure ((m_lacks.N.take m_lacks.np).zip us) :=
  match us, hl with | [_, _], _ => rfl
theorem ok_lack_sum : okDef fsB xsB m_lack_sum s_lack_sum = true := by decide +kernel
theorem b_lack_sum (kV doc pm : Value) (an : Option Addr) (cd ct : Value) (us : List Value) (hl : us.length = (m_lack_sum.N.take m_lack_sum.np).length) : bindArgs (PySem.W.fnOf "lack_sum" "lack_sum" (defArgs s_lack_sum) (defBody s_lack_sum) (defScope s_lack_sum) .none kV doc pm an cd ct) ⟨us, []⟩ = pure ((m_lack_sum.N.take m_lack_sum.np).zip us) :=
  match us, hl with | [_, _, _], _ => rfl
theorem ok_poverty_of : okDef fsB xsB m_poverty_of s_poverty_of = true := by decide +kernel
theorem b_poverty_of (kV doc pm : Value) (an : Option Addr) (cd ct : Value) (us : List Value) (hl : us.length = (m_poverty_of.N.take m_poverty_of.np).length) : bindArgs (PySem.W.fnOf "poverty_of" "poverty_of" (defArgs s_poverty_of) (defBody s_poverty_of) (defScope s_poverty_of) .none kV doc pm an cd ct) ⟨us, []⟩ = pure ((m_poverty_of.N.take m_poverty_of.np).zip us) :=
  match us, hl with | [_, _, _], _ => rfl
theorem ok_poverty : okDef fsB xsB m_poverty s_poverty = true := by decide +kernel
theorem b_poverty (kV doc pm : Value) (an : Option Addr) (cd ct : Value) (us : List Value) (hl : us.length = (m_poverty.N.take m_poverty.np).length) : bindArgs (PySem.W.fnOf "poverty" "poverty" (defArgs s_poverty) (defBody s_poverty) (defScope s_poverty) .none kV doc pm an cd ct) ⟨us, []⟩ = pure ((m_poverty.N.take m_poverty.np).zip us) :=
  match us, hl with | [_, _, _], _ => rfl
theorem ok_are_groups : okDef fsB xsB m_are_groups s_are_groups = true := by decide +kernel
theorem b_are_groups (kV doc pm : Value) (an : Option Addr) (cd ct : Value) (us : List Value) (hl : us.length = (m_are_groups.N.take m_are_groups.np).length) : bindArgs (PySem.W.fnOf "are_groups" "are_groups" (defArgs s_are_groups) (defBody s_are_groups) (defScope s_are_groups) .none kV doc pm an cd ct) ⟨us, []⟩ = pure ((m_are_groups.N.take m_are_groups.np).zip us) :=
  match us, hl with | [_], _ => rfl
theorem ok_check_groups : okDef fsB xsB m_check_groups s_check_groups = true := by decide +kernel
theorem b_check_groups (kV doc pm : Value) (an : Option Addr) (cd ct : Value) (us : List Value) (hl : us.length = (m_check_groups.N.take m_check_groups.np).length) : bindArgs (PySem.W.fnOf "check_groups" "check_groups" (defArgs s_check_groups) (defBody s_check_groups) (defScope s_check_groups) .none kV doc pm an cd ct) ⟨us, []⟩ = pure ((m_check_groups.N.take m_check_groups.np).zip us) :=
  match us, hl with | [_], _ => rfl
theorem ok_poverty_parts : okDef fsB xsB m_poverty_parts s_poverty_parts = true := by decide +kernel
theorem b_poverty_parts (kV doc pm : Value) (an : Option Addr) (cd ct : Value) (us : List Value) (hl : us.length = (m_poverty_parts.N.take m_poverty_parts.np).length) : bindArgs (PySem.W.fnOf "poverty_parts" "poverty_parts" (defArgs s_poverty_parts) (defBody s_poverty_parts) (defScope s_poverty_parts) .none kV doc pm an cd ct) ⟨us, []⟩ = pure ((m_poverty_parts.N.take m_poverty_parts.np).zip us) :=
  match us, hl with | [_, _, _], _ => rfl
theorem ok_L_draw : okDef fsB xsB m_L_draw s_L_draw = true := by decide +kernel
theorem b_L_draw (kV doc pm : Value) (an : Option Addr) (cd ct : Value) (us : List Value) (hl : us.length = (m_L_draw.N.take m_L_draw.np).length) : bindArgs (PySem.W.fnOf "_law_draw" "_law_draw" (defArgs s_L_draw) (defBody s_L_draw) (defScope s_L_draw) .none kV doc pm an cd ct) ⟨us, []⟩ = pure ((m_L_draw.N.take m_L_draw.np).zip us) :=
  match us, hl with | [_], _ => rfl
theorem ok_L_take : okDef fsB xsB m_L_take s_L_take = true := by decide +kernel
theorem b_L_take (kV doc pm : Value) (an : Option Addr) (cd ct : Value) (us : List Value) (hl : us.length = (m_L_take.N.take m_L_take.np).length) : bindArgs (PySem.W.fnOf "_law_take" "_law_take" (defArgs s_L_take) (defBody s_L_take) (defScope s_L_take) .none kV doc pm an cd ct) ⟨us, []⟩ = pure ((m_L_take.N.take m_L_take.np).zip us) :=
  match us, hl with | [_, _], _ => rfl
theorem ok_L_fraction : okDef fsB xsB m_L_fraction s_L_fraction = true := by decide +kernel
theorem b_L_fraction (kV doc pm : Value) (an : Option Addr) (cd ct : Value) (us : List Value) (hl : us.length = (m_L_fraction.N.take m_L_fraction.np).length) : bindArgs (PySem.W.fnOf "_law_fraction" "_law_fraction" (defArgs s_L_fraction) (defBody s_L_fraction) (defScope s_L_fraction) .none kV doc pm an cd ct) ⟨us, []⟩ = pure ((m_L_fraction.N.take m_L_fraction.np).zip us) :=
  match us, hl with | [_, _], _ => rfl
theorem ok_L_plus : okDef fsB xsB m_L_plus s_L_plus = true := by decide +kernel
theorem b_L_plus (kV doc pm : Value) (an : Option Addr) (cd ct : Value) (us : List Value) (hl : us.length = (m_L_plus.N.take m_L_plus.np).length) : bindArgs (PySem.W.fnOf "_law_plus" "_law_plus" (defArgs s_L_plus) (defBody s_L_plus) (defScope s_L_plus) .none kV doc pm an cd ct) ⟨us, []⟩ = pure ((m_L_plus.N.take m_L_plus.np).zip us) :=
  match us, hl with | [_, _], _ => rfl
theorem ok_L_minus : okDef fsB xsB m_L_minus s_L_minus = true := by decide +kernel
theorem b_L_minus (kV doc pm : Value) (an : Option Addr) (cd ct : Value) (us : List Value) (hl : us.length = (m_L_minus.N.take m_L_minus.np).length) : bindArgs (PySem.W.fnOf "_law_minus" "_law_minus" (defArgs s_L_minus) (defBody s_L_minus) (defScope s_L_minus) .none kV doc pm an cd ct) ⟨us, []⟩ = pure ((m_L_minus.N.take m_L_minus.np).zip us) :=
  match us, hl with | [_, _], _ => rfl
theorem ok_L_less : okDef fsB xsB m_L_less s_L_less = true := by decide +kernel
theorem b_L_less (kV doc pm : Value) (an : Option Addr) (cd ct : Value) (us : List Value) (hl : us.length = (m_L_less.N.take m_L_less.np).length) : bindArgs (PySem.W.fnOf "_law_less" "_law_less" (defArgs s_L_less) (defBody s_L_less) (defScope s_L_less) .none kV doc pm an cd ct) ⟨us, []⟩ = pure ((m_L_less.N.take m_L_less.np).zip us) :=
  match us, hl with | [_, _], _ => rfl
theorem ok_L_sum : okDef fsB xsB m_L_sum s_L_sum = true := by decide +kernel
theorem b_L_sum (kV doc pm : Value) (an : Option Addr) (cd ct : Value) (us : List Value) (hl : us.length = (m_L_sum.N.take m_L_sum.np).length) : bindArgs (PySem.W.fnOf "_law_sum" "_law_sum" (defArgs s_L_sum) (defBody s_L_sum) (defScope s_L_sum) .none kV doc pm an cd ct) ⟨us, []⟩ = pure ((m_L_sum.N.take m_L_sum.np).zip us) :=
  match us, hl with | [_], _ => rfl
theorem ok_L_times : okDef fsB xsB m_L_times s_L_times = true := by decide +kernel
theorem b_L_times (kV doc pm : Value) (an : Option Addr) (cd ct : Value) (us : List Value) (hl : us.length = (m_L_times.N.take m_L_times.np).length) : bindArgs (PySem.W.fnOf "_law_times" "_law_times" (defArgs s_L_times) (defBody s_L_times) (defScope s_L_times) .none kV doc pm an cd ct) ⟨us, []⟩ = pure ((m_L_times.N.take m_L_times.np).zip us) :=
  match us, hl with | [_, _], _ => rfl
theorem ok_L_over : okDef fsB xsB m_L_over s_L_over = true := by decide +kernel
theorem b_L_over (kV doc pm : Value) (an : Option Addr) (cd ct : Value) (us : List Value) (hl : us.length = (m_L_over.N.take m_L_over.np).length) : bindArgs (PySem.W.fnOf "_law_over" "_law_over" (defArgs s_L_over) (defBody s_L_over) (defScope s_L_over) .none kV doc pm an cd ct) ⟨us, []⟩ = pure ((m_L_over.N.take m_L_over.np).zip us) :=
  match us, hl with | [_, _], _ => rfl
theorem ok_L_lot : okDef fsB xsB m_L_lot s_L_lot = true := by decide +kernel
theorem b_L_lot (kV doc pm : Value) (an : Option Addr) (cd ct : Value) (us : List Value) (hl : us.length = (m_L_lot.N.take m_L_lot.np).length) : bindArgs (PySem.W.fnOf "_law_lot" "_law_lot" (defArgs s_L_lot) (defBody s_L_lot) (defScope s_L_lot) .none kV doc pm an cd ct) ⟨us, []⟩ = pure ((m_L_lot.N.take m_L_lot.np).zip us) :=
  match us, hl with | [_, _, _], _ => rfl
theorem ok_L_line : okDef fsB xsB m_L_line s_L_line = true := by decide +kernel
theorem b_L_line (kV doc pm : Value) (an : Option Addr) (cd ct : Value) (us : List Value) (hl : us.length = (m_L_line.N.take m_L_line.np).length) : bindArgs (PySem.W.fnOf "_law_line" "_law_line" (defArgs s_L_line) (defBody s_L_line) (defScope s_L_line) .none kV doc pm an cd ct) ⟨us, []⟩ = pure ((m_L_line.N.take m_L_line.np).zip us) :=
  match us, hl with | [_, _], _ => rfl
theorem ok_L_bad_lot : okDef fsB xsB m_L_bad_lot s_L_bad_lot = true := by decide +kernel
theorem b_L_bad_lot (kV doc pm : Value) (an : Option Addr) (cd ct : Value) (us : List Value) (hl : us.length = (m_L_bad_lot.N.take m_L_bad_lot.np).length) : bindArgs (PySem.W.fnOf "_law_bad_lot" "_law_bad_lot" (defArgs s_L_bad_lot) (defBody s_L_bad_lot) (defScope s_L_bad_lot) .none kV doc pm an cd ct) ⟨us, []⟩ = pure ((m_L_bad_lot.N.take m_L_bad_lot.np).zip us) :=
  match us, hl with | [_, _], _ => rfl
theorem ok_L_due : okDef fsB xsB m_L_due s_L_due = true := by decide +kernel
theorem b_L_due (kV doc pm : Value) (an : Option Addr) (cd ct : Value) (us : List Value) (hl : us.length = (m_L_due.N.take m_L_due.np).length) : bindArgs (PySem.W.fnOf "_law_due" "_law_due" (defArgs s_L_due) (defBody s_L_due) (defScope s_L_due) .none kV doc pm an cd ct) ⟨us, []⟩ = pure ((m_L_due.N.take m_L_due.np).zip us) :=
  match us, hl with | [_, _, _], _ => rfl
theorem ok_L_malformed : okDef fsB xsB m_L_malformed s_L_malformed = true := by decide +kernel
theorem b_L_malformed (kV doc pm : Value) (an : Option Addr) (cd ct : Value) (us : List Value) (hl : us.length = (m_L_malformed.N.take m_L_malformed.np).length) : bindArgs (PySem.W.fnOf "_law_malformed" "_law_malformed" (defArgs s_L_malformed) (defBody s_L_malformed) (defScope s_L_malformed) .none kV doc pm an cd ct) ⟨us, []⟩ = pure ((m_L_malformed.N.take m_L_malformed.np).zip us) :=
  match us, hl with | [_, _, _, _], _ => rfl
theorem ok_law : okDef fsB xsB m_law s_law = true := by decide +kernel
theorem b_law (kV doc pm : Value) (an : Option Addr) (cd ct : Value) (us : List Value) (hl : us.length = (m_law.N.take m_law.np).length) : bindArgs (PySem.W.fnOf "law" "law" (defArgs s_law) (defBody s_law) (defScope s_law) .none kV doc pm an cd ct) ⟨us, []⟩ = pure ((m_law.N.take m_law.np).zip us) :=
  match us, hl with | [_], _ => rfl
theorem all_mk {K : PySem.W.Frag} {h : Heap} {mg : Str → Option Value} (X : K.In h) (G : h.Ns mainGlobals mg)
    {f0 : Addr} {od0 an0 : Option Addr} {sl0 : Array (Option Value)} {oc0 kV0 dc0 pm0 cd0 ct0 : Value}
    {f1 : Addr} {od1 an1 : Option Addr} {sl1 : Array (Option Value)} {oc1 kV1 dc1 pm1 cd1 ct1 : Value}
    {f2 : Addr} {od2 an2 : Option Addr} {sl2 : Array (Option Value)} {oc2 kV2 dc2 pm2 cd2 ct2 : Value}
    {f3 : Addr} {od3 an3 : Option Addr} {sl3 : Array (Option Value)} {oc3 kV3 dc3 pm3 cd3 ct3 : Value}
    {f4 : Addr} {od4 an4 : Option Addr} {sl4 : Array (Option Value)} {oc4 kV4 dc4 pm4 cd4 ct4 : Value}
    {f5 : Addr} {od5 an5 : Option Addr} {sl5 : Array (Option Value)} {oc5 kV5 dc5 pm5 cd5 ct5 : Value}
    {f6 : Addr} {od6 an6 : Option Addr} {sl6 : Array (Option Value)} {oc6 kV6 dc6 pm6 cd6 ct6 : Value}
    {f7 : Addr} {od7 an7 : Option Addr} {sl7 : Array (Option Value)} {oc7 kV7 dc7 pm7 cd7 ct7 : Value}
    {f8 : Addr} {od8 an8 : Option Addr} {sl8 : Array (Option Value)} {oc8 kV8 dc8 pm8 cd8 ct8 : Value}
    {f9 : Addr} {od9 an9 : Option Addr} {sl9 : Array (Option Value)} {oc9 kV9 dc9 pm9 cd9 ct9 : Value}
    {f10 : Addr} {od10 an10 : Option Addr} {sl10 : Array (Option Value)} {oc10 kV10 dc10 pm10 cd10 ct10 : Value}
    {f11 : Addr} {od11 an11 : Option Addr} {sl11 : Array (Option Value)} {oc11 kV11 dc11 pm11 cd11 ct11 : Value}
    {f12 : Addr} {od12 an12 : Option Addr} {sl12 : Array (Option Value)} {oc12 kV12 dc12 pm12 cd12 ct12 : Value}
    {f13 : Addr} {od13 an13 : Option Addr} {sl13 : Array (Option Value)} {oc13 kV13 dc13 pm13 cd13 ct13 : Value}
    {f14 : Addr} {od14 an14 : Option Addr} {sl14 : Array (Option Value)} {oc14 kV14 dc14 pm14 cd14 ct14 : Value}
    {f15 : Addr} {od15 an15 : Option Addr} {sl15 : Array (Option Value)} {oc15 kV15 dc15 pm15 cd15 ct15 : Value}
    {f16 : Addr} {od16 an16 : Option Addr} {sl16 : Array (Option Value)} {oc16 kV16 dc16 pm16 cd16 ct16 : Value}
    {f17 : Addr} {od17 an17 : Option Addr} {sl17 : Array (Option Value)} {oc17 kV17 dc17 pm17 cd17 ct17 : Value}
    {f18 : Addr} {od18 an18 : Option Addr} {sl18 : Array (Option Value)} {oc18 kV18 dc18 pm18 cd18 ct18 : Value}
    {f19 : Addr} {od19 an19 : Option Addr} {sl19 : Array (Option Value)} {oc19 kV19 dc19 pm19 cd19 ct19 : Value}
    {f20 : Addr} {od20 an20 : Option Addr} {sl20 : Array (Option Value)} {oc20 kV20 dc20 pm20 cd20 ct20 : Value}
    {f21 : Addr} {od21 an21 : Option Addr} {sl21 : Array (Option Value)} {oc21 kV21 dc21 pm21 cd21 ct21 : Value}
    {f22 : Addr} {od22 an22 : Option Addr} {sl22 : Array (Option Value)} {oc22 kV22 dc22 pm22 cd22 ct22 : Value}
    {f23 : Addr} {od23 an23 : Option Addr} {sl23 : Array (Option Value)} {oc23 kV23 dc23 pm23 cd23 ct23 : Value}
    {f24 : Addr} {od24 an24 : Option Addr} {sl24 : Array (Option Value)} {oc24 kV24 dc24 pm24 cd24 ct24 : Value}
    {f25 : Addr} {od25 an25 : Option Addr} {sl25 : Array (Option Value)} {oc25 kV25 dc25 pm25 cd25 ct25 : Value}
    {f26 : Addr} {od26 an26 : Option Addr} {sl26 : Array (Option Value)} {oc26 kV26 dc26 pm26 cd26 ct26 : Value}
    {f27 : Addr} {od27 an27 : Option Addr} {sl27 : Array (Option Value)} {oc27 kV27 dc27 pm27 cd27 ct27 : Value}
    {f28 : Addr} {od28 an28 : Option Addr} {sl28 : Array (Option Value)} {oc28 kV28 dc28 pm28 cd28 ct28 : Value}
    {f29 : Addr} {od29 an29 : Option Addr} {sl29 : Array (Option Value)} {oc29 kV29 dc29 pm29 cd29 ct29 : Value}
    {f30 : Addr} {od30 an30 : Option Addr} {sl30 : Array (Option Value)} {oc30 kV30 dc30 pm30 cd30 ct30 : Value}
    {f31 : Addr} {od31 an31 : Option Addr} {sl31 : Array (Option Value)} {oc31 kV31 dc31 pm31 cd31 ct31 : Value}
    {f32 : Addr} {od32 an32 : Option Addr} {sl32 : Array (Option Value)} {oc32 kV32 dc32 pm32 cd32 ct32 : Value}
    {f33 : Addr} {od33 an33 : Option Addr} {sl33 : Array (Option Value)} {oc33 kV33 dc33 pm33 cd33 ct33 : Value}
    {f34 : Addr} {od34 an34 : Option Addr} {sl34 : Array (Option Value)} {oc34 kV34 dc34 pm34 cd34 ct34 : Value}
    {f35 : Addr} {od35 an35 : Option Addr} {sl35 : Array (Option Value)} {oc35 kV35 dc35 pm35 cd35 ct35 : Value}
    {f36 : Addr} {od36 an36 : Option Addr} {sl36 : Array (Option Value)} {oc36 kV36 dc36 pm36 cd36 ct36 : Value}
    {f37 : Addr} {od37 an37 : Option Addr} {sl37 : Array (Option Value)} {oc37 kV37 dc37 pm37 cd37 ct37 : Value}
    {gu0 : Value}
    {gu1 : Value}
    {gu2 : Value}
    {gu3 : Value}
    {gu4 : Value}
    {gu5 : Value}
    {C0 : Addr}
    {C1 : Addr}
    (a0 : PySem.W.nsIn K mainGlobals "is_whole" = some (some (.ref f0)))
    (l0 : K.lookup f0 = some ⟨oc0, od0, .func (PySem.W.fnOf "is_whole" "is_whole" (defArgs s_is_whole) (defBody s_is_whole) (defScope s_is_whole) .none kV0 dc0 pm0 an0 cd0 ct0), sl0⟩)
    (c0 : PySem.W.codeIn K cd0 "is_whole" = true)
    (k0 : PySem.W.keepIn K (.ref f0) = true)
    (a1 : PySem.W.nsIn K mainGlobals "common" = some (some (.ref f1)))
    (l1 : K.lookup f1 = some ⟨oc1, od1, .func (PySem.W.fnOf "common" "common" (defArgs s_common) (defBody s_common) (defScope s_common) .none kV1 dc1 pm1 an1 cd1 ct1), sl1⟩)
    (c1 : PySem.W.codeIn K cd1 "common" = true)
    (k1 : PySem.W.keepIn K (.ref f1) = true)
    (a2 : PySem.W.nsIn K mainGlobals "lowest" = some (some (.ref f2)))
    (l2 : K.lookup f2 = some ⟨oc2, od2, .func (PySem.W.fnOf "lowest" "lowest" (defArgs s_lowest) (defBody s_lowest) (defScope s_lowest) .none kV2 dc2 pm2 an2 cd2 ct2), sl2⟩)
    (c2 : PySem.W.codeIn K cd2 "lowest" = true)
    (k2 : PySem.W.keepIn K (.ref f2) = true)
    (a3 : PySem.W.nsIn K mainGlobals "is_ratio" = some (some (.ref f3)))
    (l3 : K.lookup f3 = some ⟨oc3, od3, .func (PySem.W.fnOf "is_ratio" "is_ratio" (defArgs s_is_ratio) (defBody s_is_ratio) (defScope s_is_ratio) .none kV3 dc3 pm3 an3 cd3 ct3), sl3⟩)
    (c3 : PySem.W.codeIn K cd3 "is_ratio" = true)
    (k3 : PySem.W.keepIn K (.ref f3) = true)
    (a4 : PySem.W.nsIn K mainGlobals "plus" = some (some (.ref f4)))
    (l4 : K.lookup f4 = some ⟨oc4, od4, .func (PySem.W.fnOf "plus" "plus" (defArgs s_plus) (defBody s_plus) (defScope s_plus) .none kV4 dc4 pm4 an4 cd4 ct4), sl4⟩)
    (c4 : PySem.W.codeIn K cd4 "plus" = true)
    (k4 : PySem.W.keepIn K (.ref f4) = true)
    (a5 : PySem.W.nsIn K mainGlobals "minus" = some (some (.ref f5)))
    (l5 : K.lookup f5 = some ⟨oc5, od5, .func (PySem.W.fnOf "minus" "minus" (defArgs s_minus) (defBody s_minus) (defScope s_minus) .none kV5 dc5 pm5 an5 cd5 ct5), sl5⟩)
    (c5 : PySem.W.codeIn K cd5 "minus" = true)
    (k5 : PySem.W.keepIn K (.ref f5) = true)
    (a6 : PySem.W.nsIn K mainGlobals "times" = some (some (.ref f6)))
    (l6 : K.lookup f6 = some ⟨oc6, od6, .func (PySem.W.fnOf "times" "times" (defArgs s_times) (defBody s_times) (defScope s_times) .none kV6 dc6 pm6 an6 cd6 ct6), sl6⟩)
    (c6 : PySem.W.codeIn K cd6 "times" = true)
    (k6 : PySem.W.keepIn K (.ref f6) = true)
    (a7 : PySem.W.nsIn K mainGlobals "over" = some (some (.ref f7)))
    (l7 : K.lookup f7 = some ⟨oc7, od7, .func (PySem.W.fnOf "over" "over" (defArgs s_over) (defBody s_over) (defScope s_over) .none kV7 dc7 pm7 an7 cd7 ct7), sl7⟩)
    (c7 : PySem.W.codeIn K cd7 "over" = true)
    (k7 : PySem.W.keepIn K (.ref f7) = true)
    (a8 : PySem.W.nsIn K mainGlobals "below" = some (some (.ref f8)))
    (l8 : K.lookup f8 = some ⟨oc8, od8, .func (PySem.W.fnOf "below" "below" (defArgs s_below) (defBody s_below) (defScope s_below) .none kV8 dc8 pm8 an8 cd8 ct8), sl8⟩)
    (c8 : PySem.W.codeIn K cd8 "below" = true)
    (k8 : PySem.W.keepIn K (.ref f8) = true)
    (a9 : PySem.W.nsIn K mainGlobals "total" = some (some (.ref f9)))
    (l9 : K.lookup f9 = some ⟨oc9, od9, .func (PySem.W.fnOf "total" "total" (defArgs s_total) (defBody s_total) (defScope s_total) .none kV9 dc9 pm9 an9 cd9 ct9), sl9⟩)
    (c9 : PySem.W.codeIn K cd9 "total" = true)
    (k9 : PySem.W.keepIn K (.ref f9) = true)
    (a10 : PySem.W.nsIn K mainGlobals "is_income" = some (some (.ref f10)))
    (l10 : K.lookup f10 = some ⟨oc10, od10, .func (PySem.W.fnOf "is_income" "is_income" (defArgs s_is_income) (defBody s_is_income) (defScope s_is_income) .none kV10 dc10 pm10 an10 cd10 ct10), sl10⟩)
    (c10 : PySem.W.codeIn K cd10 "is_income" = true)
    (k10 : PySem.W.keepIn K (.ref f10) = true)
    (a11 : PySem.W.nsIn K mainGlobals "is_lot" = some (some (.ref f11)))
    (l11 : K.lookup f11 = some ⟨oc11, od11, .func (PySem.W.fnOf "is_lot" "is_lot" (defArgs s_is_lot) (defBody s_is_lot) (defScope s_is_lot) .none kV11 dc11 pm11 an11 cd11 ct11), sl11⟩)
    (c11 : PySem.W.codeIn K cd11 "is_lot" = true)
    (k11 : PySem.W.keepIn K (.ref f11) = true)
    (a12 : PySem.W.nsIn K mainGlobals "check_lot" = some (some (.ref f12)))
    (l12 : K.lookup f12 = some ⟨oc12, od12, .func (PySem.W.fnOf "check_lot" "check_lot" (defArgs s_check_lot) (defBody s_check_lot) (defScope s_check_lot) .none kV12 dc12 pm12 an12 cd12 ct12), sl12⟩)
    (c12 : PySem.W.codeIn K cd12 "check_lot" = true)
    (k12 : PySem.W.keepIn K (.ref f12) = true)
    (a13 : PySem.W.nsIn K mainGlobals "is_line" = some (some (.ref f13)))
    (l13 : K.lookup f13 = some ⟨oc13, od13, .func (PySem.W.fnOf "is_line" "is_line" (defArgs s_is_line) (defBody s_is_line) (defScope s_is_line) .none kV13 dc13 pm13 an13 cd13 ct13), sl13⟩)
    (c13 : PySem.W.codeIn K cd13 "is_line" = true)
    (k13 : PySem.W.keepIn K (.ref f13) = true)
    (a14 : PySem.W.nsIn K mainGlobals "check_line" = some (some (.ref f14)))
    (l14 : K.lookup f14 = some ⟨oc14, od14, .func (PySem.W.fnOf "check_line" "check_line" (defArgs s_check_line) (defBody s_check_line) (defScope s_check_line) .none kV14 dc14 pm14 an14 cd14 ct14), sl14⟩)
    (c14 : PySem.W.codeIn K cd14 "check_line" = true)
    (k14 : PySem.W.keepIn K (.ref f14) = true)
    (a15 : PySem.W.nsIn K mainGlobals "check_poor_word" = some (some (.ref f15)))
    (l15 : K.lookup f15 = some ⟨oc15, od15, .func (PySem.W.fnOf "check_poor_word" "check_poor_word" (defArgs s_check_poor_word) (defBody s_check_poor_word) (defScope s_check_poor_word) .none kV15 dc15 pm15 an15 cd15 ct15), sl15⟩)
    (c15 : PySem.W.codeIn K cd15 "check_poor_word" = true)
    (k15 : PySem.W.keepIn K (.ref f15) = true)
    (a16 : PySem.W.nsIn K mainGlobals "lacks" = some (some (.ref f16)))
    (l16 : K.lookup f16 = some ⟨oc16, od16, .func (PySem.W.fnOf "lacks" "lacks" (defArgs s_lacks) (defBody s_lacks) (defScope s_lacks) .none kV16 dc16 pm16 an16 cd16 ct16), sl16⟩)
    (c16 : PySem.W.codeIn K cd16 "lacks" = true)
    (k16 : PySem.W.keepIn K (.ref f16) = true)
    (a17 : PySem.W.nsIn K mainGlobals "lack_sum" = some (some (.ref f17)))
    (l17 : K.lookup f17 = some ⟨oc17, od17, .func (PySem.W.fnOf "lack_sum" "lack_sum" (defArgs s_lack_sum) (defBody s_lack_sum) (defScope s_lack_sum) .none kV17 dc17 pm17 an17 cd17 ct17), sl17⟩)
    (c17 : PySem.W.codeIn K cd17 "lack_sum" = true)
    (k17 : PySem.W.keepIn K (.ref f17) = true)
    (a18 : PySem.W.nsIn K mainGlobals "poverty_of" = some (some (.ref f18)))
    (l18 : K.lookup f18 = some ⟨oc18, od18, .func (PySem.W.fnOf "poverty_of" "poverty_of" (defArgs s_poverty_of) (defBody s_poverty_of) (defScope s_poverty_of) .none kV18 dc18 pm18 an18 cd18 ct18), sl18⟩)
    (c18 : PySem.W.codeIn K cd18 "poverty_of" = true)
    (k18 : PySem.W.keepIn K (.ref f18) = true)
    (a19 : PySem.W.nsIn K mainGlobals "poverty" = some (some (.ref f19)))
    (l19 : K.lookup f19 = some ⟨oc19, od19, .func (PySem.W.fnOf "poverty" "poverty" (defArgs s_poverty) (defBody s_poverty) (defScope s_poverty) .none kV19 dc19 pm19 an19 cd19 ct19), sl19⟩)
    (c19 : PySem.W.codeIn K cd19 "poverty" = true)
    (k19 : PySem.W.keepIn K (.ref f19) = true)
    (a20 : PySem.W.nsIn K mainGlobals "are_groups" = some (some (.ref f20)))
    (l20 : K.lookup f20 = some ⟨oc20, od20, .func (PySem.W.fnOf "are_groups" "are_groups" (defArgs s_are_groups) (defBody s_are_groups) (defScope s_are_groups) .none kV20 dc20 pm20 an20 cd20 ct20), sl20⟩)
    (c20 : PySem.W.codeIn K cd20 "are_groups" = true)
    (k20 : PySem.W.keepIn K (.ref f20) = true)
    (a21 : PySem.W.nsIn K mainGlobals "check_groups" = some (some (.ref f21)))
    (l21 : K.lookup f21 = some ⟨oc21, od21, .func (PySem.W.fnOf "check_groups" "check_groups" (defArgs s_check_groups) (defBody s_check_groups) (defScope s_check_groups) .none kV21 dc21 pm21 an21 cd21 ct21), sl21⟩)
    (c21 : PySem.W.codeIn K cd21 "check_groups" = true)
    (k21 : PySem.W.keepIn K (.ref f21) = true)
    (a22 : PySem.W.nsIn K mainGlobals "poverty_parts" = some (some (.ref f22)))
    (l22 : K.lookup f22 = some ⟨oc22, od22, .func (PySem.W.fnOf "poverty_parts" "poverty_parts" (defArgs s_poverty_parts) (defBody s_poverty_parts) (defScope s_poverty_parts) .none kV22 dc22 pm22 an22 cd22 ct22), sl22⟩)
    (c22 : PySem.W.codeIn K cd22 "poverty_parts" = true)
    (k22 : PySem.W.keepIn K (.ref f22) = true)
    (a23 : PySem.W.nsIn K mainGlobals "_law_draw" = some (some (.ref f23)))
    (l23 : K.lookup f23 = some ⟨oc23, od23, .func (PySem.W.fnOf "_law_draw" "_law_draw" (defArgs s_L_draw) (defBody s_L_draw) (defScope s_L_draw) .none kV23 dc23 pm23 an23 cd23 ct23), sl23⟩)
    (c23 : PySem.W.codeIn K cd23 "_law_draw" = true)
    (k23 : PySem.W.keepIn K (.ref f23) = true)
    (a24 : PySem.W.nsIn K mainGlobals "_law_take" = some (some (.ref f24)))
    (l24 : K.lookup f24 = some ⟨oc24, od24, .func (PySem.W.fnOf "_law_take" "_law_take" (defArgs s_L_take) (defBody s_L_take) (defScope s_L_take) .none kV24 dc24 pm24 an24 cd24 ct24), sl24⟩)
    (c24 : PySem.W.codeIn K cd24 "_law_take" = true)
    (k24 : PySem.W.keepIn K (.ref f24) = true)
    (a25 : PySem.W.nsIn K mainGlobals "_law_fraction" = some (some (.ref f25)))
    (l25 : K.lookup f25 = some ⟨oc25, od25, .func (PySem.W.fnOf "_law_fraction" "_law_fraction" (defArgs s_L_fraction) (defBody s_L_fraction) (defScope s_L_fraction) .none kV25 dc25 pm25 an25 cd25 ct25), sl25⟩)
    (c25 : PySem.W.codeIn K cd25 "_law_fraction" = true)
    (k25 : PySem.W.keepIn K (.ref f25) = true)
    (a26 : PySem.W.nsIn K mainGlobals "_law_plus" = some (some (.ref f26)))
    (l26 : K.lookup f26 = some ⟨oc26, od26, .func (PySem.W.fnOf "_law_plus" "_law_plus" (defArgs s_L_plus) (defBody s_L_plus) (defScope s_L_plus) .none kV26 dc26 pm26 an26 cd26 ct26), sl26⟩)
    (c26 : PySem.W.codeIn K cd26 "_law_plus" = true)
    (k26 : PySem.W.keepIn K (.ref f26) = true)
    (a27 : PySem.W.nsIn K mainGlobals "_law_minus" = some (some (.ref f27)))
    (l27 : K.lookup f27 = some ⟨oc27, od27, .func (PySem.W.fnOf "_law_minus" "_law_minus" (defArgs s_L_minus) (defBody s_L_minus) (defScope s_L_minus) .none kV27 dc27 pm27 an27 cd27 ct27), sl27⟩)
    (c27 : PySem.W.codeIn K cd27 "_law_minus" = true)
    (k27 : PySem.W.keepIn K (.ref f27) = true)
    (a28 : PySem.W.nsIn K mainGlobals "_law_less" = some (some (.ref f28)))
    (l28 : K.lookup f28 = some ⟨oc28, od28, .func (PySem.W.fnOf "_law_less" "_law_less" (defArgs s_L_less) (defBody s_L_less) (defScope s_L_less) .none kV28 dc28 pm28 an28 cd28 ct28), sl28⟩)
    (c28 : PySem.W.codeIn K cd28 "_law_less" = true)
    (k28 : PySem.W.keepIn K (.ref f28) = true)
    (a29 : PySem.W.nsIn K mainGlobals "_law_sum" = some (some (.ref f29)))
    (l29 : K.lookup f29 = some ⟨oc29, od29, .func (PySem.W.fnOf "_law_sum" "_law_sum" (defArgs s_L_sum) (defBody s_L_sum) (defScope s_L_sum) .none kV29 dc29 pm29 an29 cd29 ct29), sl29⟩)
    (c29 : PySem.W.codeIn K cd29 "_law_sum" = true)
    (k29 : PySem.W.keepIn K (.ref f29) = true)
    (a30 : PySem.W.nsIn K mainGlobals "_law_times" = some (some (.ref f30)))
    (l30 : K.lookup f30 = some ⟨oc30, od30, .func (PySem.W.fnOf "_law_times" "_law_times" (defArgs s_L_times) (defBody s_L_times) (defScope s_L_times) .none kV30 dc30 pm30 an30 cd30 ct30), sl30⟩)
    (c30 : PySem.W.codeIn K cd30 "_law_times" = true)
    (k30 : PySem.W.keepIn K (.ref f30) = true)
    (a31 : PySem.W.nsIn K mainGlobals "_law_over" = some (some (.ref f31)))
    (l31 : K.lookup f31 = some ⟨oc31, od31, .func (PySem.W.fnOf "_law_over" "_law_over" (defArgs s_L_over) (defBody s_L_over) (defScope s_L_over) .none kV31 dc31 pm31 an31 cd31 ct31), sl31⟩)
    (c31 : PySem.W.codeIn K cd31 "_law_over" = true)
    (k31 : PySem.W.keepIn K (.ref f31) = true)
    (a32 : PySem.W.nsIn K mainGlobals "_law_lot" = some (some (.ref f32)))
    (l32 : K.lookup f32 = some ⟨oc32, od32, .func (PySem.W.fnOf "_law_lot" "_law_lot" (defArgs s_L_lot) (defBody s_L_lot) (defScope s_L_lot) .none kV32 dc32 pm32 an32 cd32 ct32), sl32⟩)
    (c32 : PySem.W.codeIn K cd32 "_law_lot" = true)
    (k32 : PySem.W.keepIn K (.ref f32) = true)
    (a33 : PySem.W.nsIn K mainGlobals "_law_line" = some (some (.ref f33)))
    (l33 : K.lookup f33 = some ⟨oc33, od33, .func (PySem.W.fnOf "_law_line" "_law_line" (defArgs s_L_line) (defBody s_L_line) (defScope s_L_line) .none kV33 dc33 pm33 an33 cd33 ct33), sl33⟩)
    (c33 : PySem.W.codeIn K cd33 "_law_line" = true)
    (k33 : PySem.W.keepIn K (.ref f33) = true)
    (a34 : PySem.W.nsIn K mainGlobals "_law_bad_lot" = some (some (.ref f34)))
    (l34 : K.lookup f34 = some ⟨oc34, od34, .func (PySem.W.fnOf "_law_bad_lot" "_law_bad_lot" (defArgs s_L_bad_lot) (defBody s_L_bad_lot) (defScope s_L_bad_lot) .none kV34 dc34 pm34 an34 cd34 ct34), sl34⟩)
    (c34 : PySem.W.codeIn K cd34 "_law_bad_lot" = true)
    (k34 : PySem.W.keepIn K (.ref f34) = true)
    (a35 : PySem.W.nsIn K mainGlobals "_law_due" = some (some (.ref f35)))
    (l35 : K.lookup f35 = some ⟨oc35, od35, .func (PySem.W.fnOf "_law_due" "_law_due" (defArgs s_L_due) (defBody s_L_due) (defScope s_L_due) .none kV35 dc35 pm35 an35 cd35 ct35), sl35⟩)
    (c35 : PySem.W.codeIn K cd35 "_law_due" = true)
    (k35 : PySem.W.keepIn K (.ref f35) = true)
    (a36 : PySem.W.nsIn K mainGlobals "_law_malformed" = some (some (.ref f36)))
    (l36 : K.lookup f36 = some ⟨oc36, od36, .func (PySem.W.fnOf "_law_malformed" "_law_malformed" (defArgs s_L_malformed) (defBody s_L_malformed) (defScope s_L_malformed) .none kV36 dc36 pm36 an36 cd36 ct36), sl36⟩)
    (c36 : PySem.W.codeIn K cd36 "_law_malformed" = true)
    (k36 : PySem.W.keepIn K (.ref f36) = true)
    (a37 : PySem.W.nsIn K mainGlobals "law" = some (some (.ref f37)))
    (l37 : K.lookup f37 = some ⟨oc37, od37, .func (PySem.W.fnOf "law" "law" (defArgs s_law) (defBody s_law) (defScope s_law) .none kV37 dc37 pm37 an37 cd37 ct37), sl37⟩)
    (c37 : PySem.W.codeIn K cd37 "law" = true)
    (k37 : PySem.W.keepIn K (.ref f37) = true)
    (vg0 : PySem.W.nsIn K mainGlobals "ZERO" = some (some gu0))
    (vr0 : glOk K 40 (.tuple [(.int 0), (.int 1)]) gu0 = true)
    (vg1 : PySem.W.nsIn K mainGlobals "MOST_PEOPLE" = some (some gu1))
    (vr1 : glOk K 40 (.int 40) gu1 = true)
    (vg2 : PySem.W.nsIn K mainGlobals "MOST_INCOME" = some (some gu2))
    (vr2 : glOk K 40 (.int 1000000) gu2 = true)
    (vg3 : PySem.W.nsIn K mainGlobals "LINE_WORDS" = some (some gu3))
    (vr3 : glOk K 40 (.tuple [(.str "count"), (.str "gap"), (.str "square")]) gu3 = true)
    (vg4 : PySem.W.nsIn K mainGlobals "POOR_WORDS" = some (some gu4))
    (vr4 : glOk K 40 (.tuple [(.str "count"), (.str "gap"), (.str "square"), (.str "sen")]) gu4 = true)
    (vg5 : PySem.W.nsIn K mainGlobals "MOST_GROUPS" = some (some gu5))
    (vr5 : glOk K 40 (.int 10) gu5 = true)
    (z0 : PySem.W.nsIn K mainGlobals "len" = some none)
    (z1 : PySem.W.nsIn K mainGlobals "abs" = some none)
    (z2 : PySem.W.nsIn K mainGlobals "int" = some none)
    (z3 : PySem.W.nsIn K mainGlobals "str" = some none)
    (z4 : PySem.W.nsIn K mainGlobals "sum" = some none)
    (z5 : PySem.W.nsIn K mainGlobals "all" = some none)
    (z6 : PySem.W.nsIn K mainGlobals "any" = some none)
    (z7 : PySem.W.nsIn K mainGlobals "tuple" = some none)
    (z8 : PySem.W.nsIn K mainGlobals "list" = some none)
    (z9 : PySem.W.nsIn K mainGlobals "sorted" = some none)
    (z10 : PySem.W.nsIn K mainGlobals "min" = some none)
    (z11 : PySem.W.nsIn K mainGlobals "max" = some none)
    (z12 : PySem.W.nsIn K mainGlobals "repr" = some none)
    (z13 : PySem.W.nsIn K mainGlobals "bool" = some none)
    (z14 : PySem.W.nsIn K mainGlobals "dict" = some none)
    (z15 : PySem.W.nsIn K mainGlobals "isinstance" = some none)
    (z16 : PySem.W.nsIn K mainGlobals "range" = some none)
    (z17 : PySem.W.nsIn K mainGlobals "enumerate" = some none)
    (z18 : PySem.W.nsIn K mainGlobals "zip" = some none)
    (zV : PySem.W.nsIn K mainGlobals "ValueError" = some none)
    (xa0 : PySem.W.nsIn K mainGlobals "Fault" = some (some (.ref C0)))
    (xe0 : PySem.W.excIn K C0 [.type "ValueError", .type "Exception", .type "BaseException", .type "object"] "ValueError.__new__" = true)
    (xk0 : PySem.W.keepIn K (.ref C0) = true)
    (xs0 : PySem.W.subIn K (.ref C0) (.type "BaseException") = some true)
    (xt0 : PySem.W.typeIn K (.ref C0) = some (.type "type"))
    (xh0 : PySem.W.hasDictIn K C0 = true)
    (xa1 : PySem.W.nsIn K mainGlobals "Malformed" = some (some (.ref C1)))
    (xe1 : PySem.W.excIn K C1 [.type "ValueError", .type "Exception", .type "BaseException", .type "object"] "ValueError.__new__" = true)
    (xk1 : PySem.W.keepIn K (.ref C1) = true)
    (xs1 : PySem.W.subIn K (.ref C1) (.type "BaseException") = some true)
    (xt1 : PySem.W.typeIn K (.ref C1) = some (.type "type"))
    (xh1 : PySem.W.hasDictIn K C1 = true)
    (xca1 : PySem.W.findIn K (.ref C1) "__getattribute__" = some (some (.builtin "BaseException.__getattribute__")))
    (xcb1 : PySem.W.findIn K (.ref C1) "__getattr__" = some none)
    (xcc1 : PySem.W.findIn K (.ref C1) "__class__" = some (some (.builtin "object.__class__")))
    (xcd1 : PySem.W.mroIn K C1 (.type "object") = some true)
    (xcp : PySem.W.specialIn K (.builtin "object.__class__") "__get__" = some (some (.builtin "getset_descriptor.__get__")))
    (xcq : PySem.W.takesIn K (.builtin "object.__class__") = some true)
    (xm_0_0 : PySem.W.subIn K (.ref C0) (.ref C0) = some true)
    (xm_0_1 : PySem.W.subIn K (.ref C0) (.ref C1) = some false)
    (xm_1_0 : PySem.W.subIn K (.ref C1) (.ref C0) = some true)
    (xm_1_1 : PySem.W.subIn K (.ref C1) (.ref C1) = some true)
    (xn_1_0 : (C1 == C0 && !true) = false)
    (xv_1 : PySem.W.subIn K (.ref C1) (.type "ValueError") = some true) : TabTxt tab fsB xsB K mg where
  gl := gl_of (l := gls) (by
    intro p hp
    simp only [gls, List.mem_cons, List.not_mem_nil, or_false] at hp
    rcases hp with rfl | rfl | rfl | rfl | rfl | rfl
    · exact ⟨gu0, PySem.W.mg_of X G vg0, vr0⟩
    · exact ⟨gu1, PySem.W.mg_of X G vg1, vr1⟩
    · exact ⟨gu2, PySem.W.mg_of X G vg2, vr2⟩
    · exact ⟨gu3, PySem.W.mg_of X G vg3, vr3⟩
    · exact ⟨gu4, PySem.W.mg_of X G vg4, vr4⟩
    · exact ⟨gu5, PySem.W.mg_of X G vg5, vr5⟩)
  blt := fun x hx => by
    simp only [List.mem_cons, List.not_mem_nil, or_false] at hx
    rcases hx with rfl | rfl | rfl | rfl | rfl | rfl | rfl | rfl | rfl | rfl | rfl | rfl | rfl | rfl | rfl | rfl | rfl | rfl | rfl
    · exact PySem.W.mg_none_of X G z0
    · exact PySem.W.mg_none_of X G z1
    · exact PySem.W.mg_none_of X G z2
    · exact PySem.W.mg_none_of X G z3
    · exact PySem.W.mg_none_of X G z4
    · exact PySem.W.mg_none_of X G z5
    · exact PySem.W.mg_none_of X G z6
    · exact PySem.W.mg_none_of X G z7
    · exact PySem.W.mg_none_of X G z8
    · exact PySem.W.mg_none_of X G z9
    · exact PySem.W.mg_none_of X G z10
    · exact PySem.W.mg_none_of X G z11
    · exact PySem.W.mg_none_of X G z12
    · exact PySem.W.mg_none_of X G z13
    · exact PySem.W.mg_none_of X G z14
    · exact PySem.W.mg_none_of X G z15
    · exact PySem.W.mg_none_of X G z16
    · exact PySem.W.mg_none_of X G z17
    · exact PySem.W.mg_none_of X G z18
  fsd := fs_of table
  exc := fun x hx => by
    simp only [xsB, List.contains_cons, List.contains_nil, Bool.or_false, Bool.or_eq_true, beq_iff_eq] at hx
    rcases hx with rfl | rfl
    · exact ⟨C0, PySem.W.mg_of X G xa0, xe0, xk0, xs0, xt0⟩
    · exact ⟨C1, PySem.W.mg_of X G xa1, xe1, xk1, xs1, xt1⟩
  xm := pair_of (l := xms) (by
    intro p hp C1 C2 e1 e2
    simp only [xms, List.mem_cons, List.not_mem_nil, or_false] at hp
    rcases hp with rfl | rfl | rfl | rfl
    · exact ref2 (PySem.W.mg_of X G xa0) (PySem.W.mg_of X G xa0) e1 e2 (PySem.W.exm_ref xs0 xh0 xt0 xm_0_0)
    · exact ref2 (PySem.W.mg_of X G xa0) (PySem.W.mg_of X G xa1) e1 e2 (PySem.W.exm_ref xs1 xh1 xt1 xm_0_1)
    · exact ref2 (PySem.W.mg_of X G xa1) (PySem.W.mg_of X G xa0) e1 e2 (PySem.W.exm_ref xs0 xh0 xt0 xm_1_0)
    · exact ref2 (PySem.W.mg_of X G xa1) (PySem.W.mg_of X G xa1) e1 e2 (PySem.W.exm_ref xs1 xh1 xt1 xm_1_1))
  xi := pairI_of (l := xis) (by
    intro p hp D e1
    simp only [xis, List.mem_cons, List.not_mem_nil, or_false] at hp
    rcases hp with rfl | rfl
    · exact refI (PySem.W.mg_of X G xa1) e1 (excC_mk xca1 xcb1 xs1 xh1 xcc1 xcp xcq xcd1) (.inl ⟨C0, PySem.W.mg_of X G xa0, rfl⟩) (kit_ref xn_1_0 xh0 xt0 xm_1_0)
    · exact refI (PySem.W.mg_of X G xa1) e1 (excC_mk xca1 xcb1 xs1 xh1 xcc1 xcp xcq xcd1) (.inr ⟨PySem.W.mg_none_of X G zV, rfl, rfl⟩) (kit_VE xv_1))
  defs := defs_of (l := table) (by
    intro p hp
    simp only [table, List.mem_cons, List.not_mem_nil, or_false] at hp
    rcases hp with rfl | rfl | rfl | rfl | rfl | rfl | rfl | rfl | rfl | rfl | rfl | rfl | rfl | rfl | rfl | rfl | rfl | rfl | rfl | rfl | rfl | rfl | rfl | rfl | rfl | rfl | rfl | rfl | rfl | rfl | rfl | rfl | rfl | rfl | rfl | rfl | rfl | rfl
    · exact ⟨_, _, _, PySem.W.mg_of X G a0, k0, fun_mk (st := s_is_whole) l0 c0 k0, b_is_whole _ _ _ _ _ _, ok_is_whole⟩
    · exact ⟨_, _, _, PySem.W.mg_of X G a1, k1, fun_mk (st := s_common) l1 c1 k1, b_common _ _ _ _ _ _, ok_common⟩
    · exact ⟨_, _, _, PySem.W.mg_of X G a2, k2, fun_mk (st := s_lowest) l2 c2 k2, b_lowest _ _ _ _ _ _, ok_lowest⟩
    · exact ⟨_, _, _, PySem.W.mg_of X G a3, k3, fun_mk (st := s_is_ratio) l3 c3 k3, b_is_ratio _ _ _ _ _ _, ok_is_ratio⟩
    · exact ⟨_, _, _, PySem.W.mg_of X G a4, k4, fun_mk (st := s_plus) l4 c4 k4, b_plus _ _ _ _ _ _, ok_plus⟩
    · exact ⟨_, _, _, PySem.W.mg_of X G a5, k5, fun_mk (st := s_minus) l5 c5 k5, b_minus _ _ _ _ _ _, ok_minus⟩
    · exact ⟨_, _, _, PySem.W.mg_of X G a6, k6, fun_mk (st := s_times) l6 c6 k6, b_times _ _ _ _ _ _, ok_times⟩
    · exact ⟨_, _, _, PySem.W.mg_of X G a7, k7, fun_mk (st := s_over) l7 c7 k7, b_over _ _ _ _ _ _, ok_over⟩
    · exact ⟨_, _, _, PySem.W.mg_of X G a8, k8, fun_mk (st := s_below) l8 c8 k8, b_below _ _ _ _ _ _, ok_below⟩
    · exact ⟨_, _, _, PySem.W.mg_of X G a9, k9, fun_mk (st := s_total) l9 c9 k9, b_total _ _ _ _ _ _, ok_total⟩
    · exact ⟨_, _, _, PySem.W.mg_of X G a10, k10, fun_mk (st := s_is_income) l10 c10 k10, b_is_income _ _ _ _ _ _, ok_is_income⟩
    · exact ⟨_, _, _, PySem.W.mg_of X G a11, k11, fun_mk (st := s_is_lot) l11 c11 k11, b_is_lot _ _ _ _ _ _, ok_is_lot⟩
    · exact ⟨_, _, _, PySem.W.mg_of X G a12, k12, fun_mk (st := s_check_lot) l12 c12 k12, b_check_lot _ _ _ _ _ _, ok_check_lot⟩
    · exact ⟨_, _, _, PySem.W.mg_of X G a13, k13, fun_mk (st := s_is_line) l13 c13 k13, b_is_line _ _ _ _ _ _, ok_is_line⟩
    · exact ⟨_, _, _, PySem.W.mg_of X G a14, k14, fun_mk (st := s_check_line) l14 c14 k14, b_check_line _ _ _ _ _ _, ok_check_line⟩
    · exact ⟨_, _, _, PySem.W.mg_of X G a15, k15, fun_mk (st := s_check_poor_word) l15 c15 k15, b_check_poor_word _ _ _ _ _ _, ok_check_poor_word⟩
    · exact ⟨_, _, _, PySem.W.mg_of X G a16, k16, fun_mk (st := s_lacks) l16 c16 k16, b_lacks _ _ _ _ _ _, ok_lacks⟩
    · exact ⟨_, _, _, PySem.W.mg_of X G a17, k17, fun_mk (st := s_lack_sum) l17 c17 k17, b_lack_sum _ _ _ _ _ _, ok_lack_sum⟩
    · exact ⟨_, _, _, PySem.W.mg_of X G a18, k18, fun_mk (st := s_poverty_of) l18 c18 k18, b_poverty_of _ _ _ _ _ _, ok_poverty_of⟩
    · exact ⟨_, _, _, PySem.W.mg_of X G a19, k19, fun_mk (st := s_poverty) l19 c19 k19, b_poverty _ _ _ _ _ _, ok_poverty⟩
    · exact ⟨_, _, _, PySem.W.mg_of X G a20, k20, fun_mk (st := s_are_groups) l20 c20 k20, b_are_groups _ _ _ _ _ _, ok_are_groups⟩
    · exact ⟨_, _, _, PySem.W.mg_of X G a21, k21, fun_mk (st := s_check_groups) l21 c21 k21, b_check_groups _ _ _ _ _ _, ok_check_groups⟩
    · exact ⟨_, _, _, PySem.W.mg_of X G a22, k22, fun_mk (st := s_poverty_parts) l22 c22 k22, b_poverty_parts _ _ _ _ _ _, ok_poverty_parts⟩
    · exact ⟨_, _, _, PySem.W.mg_of X G a23, k23, fun_mk (st := s_L_draw) l23 c23 k23, b_L_draw _ _ _ _ _ _, ok_L_draw⟩
    · exact ⟨_, _, _, PySem.W.mg_of X G a24, k24, fun_mk (st := s_L_take) l24 c24 k24, b_L_take _ _ _ _ _ _, ok_L_take⟩
    · exact ⟨_, _, _, PySem.W.mg_of X G a25, k25, fun_mk (st := s_L_fraction) l25 c25 k25, b_L_fraction _ _ _ _ _ _, ok_L_fraction⟩
    · exact ⟨_, _, _, PySem.W.mg_of X G a26, k26, fun_mk (st := s_L_plus) l26 c26 k26, b_L_plus _ _ _ _ _ _, ok_L_plus⟩
    · exact ⟨_, _, _, PySem.W.mg_of X G a27, k27, fun_mk (st := s_L_minus) l27 c27 k27, b_L_minus _ _ _ _ _ _, ok_L_minus⟩
    · exact ⟨_, _, _, PySem.W.mg_of X G a28, k28, fun_mk (st := s_L_less) l28 c28 k28, b_L_less _ _ _ _ _ _, ok_L_less⟩
    · exact ⟨_, _, _, PySem.W.mg_of X G a29, k29, fun_mk (st := s_L_sum) l29 c29 k29, b_L_sum _ _ _ _ _ _, ok_L_sum⟩
    · exact ⟨_, _, _, PySem.W.mg_of X G a30, k30, fun_mk (st := s_L_times) l30 c30 k30, b_L_times _ _ _ _ _ _, ok_L_times⟩
    · exact ⟨_, _, _, PySem.W.mg_of X G a31, k31, fun_mk (st := s_L_over) l31 c31 k31, b_L_over _ _ _ _ _ _, ok_L_over⟩
    · exact ⟨_, _, _, PySem.W.mg_of X G a32, k32, fun_mk (st := s_L_lot) l32 c32 k32, b_L_lot _ _ _ _ _ _, ok_L_lot⟩
    · exact ⟨_, _, _, PySem.W.mg_of X G a33, k33, fun_mk (st := s_L_line) l33 c33 k33, b_L_line _ _ _ _ _ _, ok_L_line⟩
    · exact ⟨_, _, _, PySem.W.mg_of X G a34, k34, fun_mk (st := s_L_bad_lot) l34 c34 k34, b_L_bad_lot _ _ _ _ _ _, ok_L_bad_lot⟩
    · exact ⟨_, _, _, PySem.W.mg_of X G a35, k35, fun_mk (st := s_L_due) l35 c35 k35, b_L_due _ _ _ _ _ _, ok_L_due⟩
    · exact ⟨_, _, _, PySem.W.mg_of X G a36, k36, fun_mk (st := s_L_malformed) l36 c36 k36, b_L_malformed _ _ _ _ _ _, ok_L_malformed⟩
    · exact ⟨_, _, _, PySem.W.mg_of X G a37, k37, fun_mk (st := s_law) l37 c37 k37, b_law _ _ _ _ _ _, ok_law⟩)
theorem d_is_whole : tab.defs "is_whole" = some m_is_whole := rfl
theorem d_common : tab.defs "common" = some m_common := rfl
theorem d_lowest : tab.defs "lowest" = some m_lowest := rfl
theorem d_is_ratio : tab.defs "is_ratio" = some m_is_ratio := rfl
theorem d_plus : tab.defs "plus" = some m_plus := rfl
theorem d_minus : tab.defs "minus" = some m_minus := rfl
theorem d_times : tab.defs "times" = some m_times := rfl
theorem d_over : tab.defs "over" = some m_over := rfl
theorem d_below : tab.defs "below" = some m_below := rfl
theorem d_total : tab.defs "total" = some m_total := rfl
theorem d_is_income : tab.defs "is_income" = some m_is_income := rfl
theorem d_is_lot : tab.defs "is_lot" = some m_is_lot := rfl
theorem d_check_lot : tab.defs "check_lot" = some m_check_lot := rfl
theorem d_is_line : tab.defs "is_line" = some m_is_line := rfl
theorem d_check_line : tab.defs "check_line" = some m_check_line := rfl
theorem d_check_poor_word : tab.defs "check_poor_word" = some m_check_poor_word := rfl
theorem d_lacks : tab.defs "lacks" = some m_lacks := rfl
theorem d_lack_sum : tab.defs "lack_sum" = some m_lack_sum := rfl
theorem d_poverty_of : tab.defs "poverty_of" = some m_poverty_of := rfl
theorem d_poverty : tab.defs "poverty" = some m_poverty := rfl
theorem d_are_groups : tab.defs "are_groups" = some m_are_groups := rfl
theorem d_check_groups : tab.defs "check_groups" = some m_check_groups := rfl
theorem d_poverty_parts : tab.defs "poverty_parts" = some m_poverty_parts := rfl
theorem d_L_draw : tab.defs "_law_draw" = some m_L_draw := rfl
theorem d_L_take : tab.defs "_law_take" = some m_L_take := rfl
theorem d_L_fraction : tab.defs "_law_fraction" = some m_L_fraction := rfl
theorem d_L_plus : tab.defs "_law_plus" = some m_L_plus := rfl
theorem d_L_minus : tab.defs "_law_minus" = some m_L_minus := rfl
theorem d_L_less : tab.defs "_law_less" = some m_L_less := rfl
theorem d_L_sum : tab.defs "_law_sum" = some m_L_sum := rfl
theorem d_L_times : tab.defs "_law_times" = some m_L_times := rfl
theorem d_L_over : tab.defs "_law_over" = some m_L_over := rfl
theorem d_L_lot : tab.defs "_law_lot" = some m_L_lot := rfl
theorem d_L_line : tab.defs "_law_line" = some m_L_line := rfl
theorem d_L_bad_lot : tab.defs "_law_bad_lot" = some m_L_bad_lot := rfl
theorem d_L_due : tab.defs "_law_due" = some m_L_due := rfl
theorem d_L_malformed : tab.defs "_law_malformed" = some m_L_malformed := rfl
theorem d_law : tab.defs "law" = some m_law := rfl
end K35
namespace K35
open PySem Rf Lb
theorem tk : Take tab := sp_take rfl
theorem nf : NF tab "lowest" 2 := sp_lowest rfl rfl
theorem nl : NF tab "_law_fraction" 1 := sp_fractionL rfl
theorem p_plus : FAdd tab "plus" 3 := sp_plus nf rfl
theorem p_minus : FSub tab "minus" 3 := sp_minus nf rfl
theorem p_times : FMul tab "times" 3 := sp_times nf rfl
theorem p_over : F2z tab "over" 3 := sp_over nf rfl
theorem p_below : FLt tab "below" 1 := sp_below rfl
theorem p_total : FSum tab "total" 4 := sp_total (g := "ZERO") rfl rfl p_plus
theorem l_plus : FAdd tab "_law_plus" 2 := sp_plus nl rfl
theorem l_minus : FSub tab "_law_minus" 2 := sp_minus nl rfl
theorem l_times : FMul tab "_law_times" 2 := sp_times nl rfl
theorem l_over : F2z tab "_law_over" 2 := sp_overL nl rfl
theorem l_less : FLt tab "_law_less" 1 := sp_below rfl
theorem l_sum : FSum tab "_law_sum" 3 := sp_sumL rfl l_plus
theorem inc : IsIncome tab := sp_is_income rfl rfl rfl
theorem chk (k : Nat) (v : D) (S : Store) : call tab (k + 4) "check_lot" [.d v] S = if isLot v then .ok (.d .none) S else .err ⟨"Malformed", none⟩ S := sp_check_lot rfl rfl rfl inc k v S
theorem islot (k : Nat) (v : D) (S : Store) : call tab (k + 3) "is_lot" [.d v] S = .ok (.d (.bool (isLot v))) S := sp_is_lot rfl rfl inc k v S
theorem isr (k : Nat) (v : D) (S : Store) (hB : ∀ a b, v = .tuple [.int a, .int b] → Bd 100000 b) : call tab (k + 2) "is_ratio" [.d v] S = .ok (.d (.bool (isRatio v))) S := sp_is_ratio rfl rfl rfl k v S hB
theorem dlot : DrawLot tab := sp_lot rfl tk
/-- a lot that the walk knows, a line -/
abbrev L40 (xs : List Int) : Prop := Lot xs 40 1000000
structure Line (L : Rat) : Prop where
  pos : 0 < L
  bq : Bq 30 L
theorem Lt {xs : List Int} (h : L40 xs) : ∀ x ∈ xs, Bd 20 x := h.bd (Int.le_refl _)
/-- the poor ones -/
def poor (xs : List Int) (L : Rat) : List Int := xs.filter fun x => decide ((x : Rat) < L)
theorem poor_mem {xs : List Int} {L : Rat} {x : Int} (h : x ∈ poor xs L) : x ∈ xs := (List.mem_filter.mp h).1
theorem poor_len (xs : List Int) (L : Rat) : (poor xs L).length ≤ xs.length := List.length_filter_le _ _
/-- what they lack -/
def lack (xs : List Int) (L : Rat) : List Rat := (poor xs L).map fun x : Int => L - (x : Rat)
theorem p_lacks (k : Nat) {xs : List Int} {L : Rat} (S : Store) (h : L40 xs) (hL : Line L) : call tab (k + 4) "lacks" [.d (tl xs), .d (fr L)] S = .ok (.d (.list ((lack xs L).map fr))) S := by
  rw [call_eq (m := m_lacks) rfl rfl]
  have h2 := h.len
  have c1 := lc_filter (g := PyData.int) (fun x : Int => decide ((x : Rat) < L)) (fun x : Int => fr (L - (x : Rat))) (w := ⟨xs.map .int, []⟩) (base := [some (.d (tl xs)), some (.d (fr L)), none]) (t := .nm 2) (c := evE tab.gl (call tab (k + 3)) (.call "below" (.cons (.tup (.cons (.var 2) (.cons (.cint 1) .nil))) (.cons (.var 1) .nil)))) (e := evE tab.gl (call tab (k + 3)) (.call "minus" (.cons (.var 1) (.cons (.tup (.cons (.var 2) (.cons (.cint 1) .nil))) .nil)))) (S := S) rfl xs [] (by simp [lim]; omega) fun x hx => ⟨_, rfl, by
    have b := p_below (k + 2) (x : Rat) L S 20 30 (Bq.int (Lt h x hx) (by decide)) hL.bq (by decide) (by decide)
    rw [fr_int] at b
    simp [lim, b], fun _ => by
    have b := p_minus k L (x : Rat) S 30 20 hL.bq (Bq.int (Lt h x hx) (by decide)) (by decide)
    rw [fr_int] at b
    simp [lim, b]⟩
  rw [List.nil_append] at c1
  simp [-List.map_map, m_lacks, args0, x_lc, c1, noErr_okL, isFr, lack, poor]
  simp [Function.comp_def]
theorem foldl_add (qs : List Rat) : ∀ a : Rat, qs.foldl (· + ·) a = a + qs.foldl (· + ·) 0 := by
  induction qs with
  | nil => intro a; simp [Rat.add_zero]
  | cons q r ih =>
    intro a
    rw [List.foldl_cons, List.foldl_cons, ih, ih (0 + q)]
    grind
theorem sumQ_cons (q : Rat) (qs : List Rat) : sumQ (q :: qs) = q + sumQ qs := by
  unfold sumQ
  rw [List.foldl_cons, foldl_add]
  grind
theorem sum_lack (L : Rat) (xs : List Int) : sumQ (xs.map fun x : Int => L - (x : Rat)) = ((xs.length : Int) : Rat) * L - ((xs.sum : Int) : Rat) := by
  induction xs with
  | nil =>
    show (0 : Rat) = ((0 : Int) : Rat) * L - ((0 : Int) : Rat)
    have : ((0 : Int) : Rat) = 0 := rfl
    rw [this]
    grind
  | cons x r ih =>
    rw [List.map_cons, sumQ_cons, ih, List.sum_cons, List.length_cons, Rat.intCast_add, show ((r.length + 1 : Nat) : Int) = (r.length : Int) + 1 by omega, Rat.intCast_add]
    have : ((1 : Int) : Rat) = 1 := rfl
    rw [this]
    grind
theorem sum_sq (L : Rat) (xs : List Int) : sumQ (xs.map fun x : Int => (L - (x : Rat)) * (L - (x : Rat))) = ((xs.length : Int) : Rat) * (L * L) - L * ((2 * xs.sum : Int) : Rat) + (((xs.map fun x => x * x).sum : Int) : Rat) := by
  induction xs with
  | nil =>
    show (0 : Rat) = ((0 : Int) : Rat) * (L * L) - L * ((0 : Int) : Rat) + ((0 : Int) : Rat)
    have : ((0 : Int) : Rat) = 0 := rfl
    rw [this]
    grind
  | cons x r ih =>
    rw [List.map_cons, sumQ_cons, ih, List.sum_cons, List.length_cons, List.map_cons, List.sum_cons, Rat.intCast_add, Rat.intCast_mul, Rat.intCast_mul, Rat.intCast_mul, Rat.intCast_add, show ((r.length + 1 : Nat) : Int) = (r.length : Int) + 1 by omega, Rat.intCast_add]
    have : ((1 : Int) : Rat) = 1 := rfl
    have h2 : ((2 : Int) : Rat) = 2 := rfl
    rw [this, h2]
    grind
theorem bq_lack {L : Rat} {xs : List Int} (hL : Line L) (h : ∀ x ∈ xs, Bd 20 x) (hn : xs.length ≤ 40) : Bq 63 (sumQ (xs.map fun x : Int => L - (x : Rat))) := by
  rw [sum_lack]
  exact ((Bq.int (k := 6) (by unfold Bd; omega) (by decide)).mul hL.bq).sub (Bq.int (bd_sum (n := 6) h (by omega)) (by decide))
theorem bq_sq {L : Rat} {xs : List Int} (hL : Line L) (h : ∀ x ∈ xs, Bd 20 x) (hn : xs.length ≤ 40) : Bq 172 (sumQ (xs.map fun x : Int => (L - (x : Rat)) * (L - (x : Rat)))) := by
  rw [sum_sq]
  have a : Bq 66 (((xs.length : Int) : Rat) * (L * L)) := (Bq.int (k := 6) (by unfold Bd; omega) (by decide)).mul (hL.bq.mul hL.bq)
  have b : Bq 58 (L * ((2 * xs.sum : Int) : Rat)) := hL.bq.mul (Bq.int (k := 28) (Bd.mul (k := 2) (by unfold Bd; decide) (bd_sum (n := 6) h (by omega))) (by decide))
  have c : Bq 46 (((xs.map fun x => x * x).sum : Int) : Rat) := Bq.int (bd_sum (k := 40) (n := 6) (fun y hy => by
    obtain ⟨x, hx, rfl⟩ := List.mem_map.mp hy
    exact (h x hx).mul (h x hx)) (by rw [List.length_map]; omega)) (by decide)
  exact ((a.sub b).add c).mono (by decide)
theorem eq_str (a b : Str) (ha : shp (.str a) = true) (hb : shp (.str b) = true) : cmpD .Eq (.str a) (.str b) = some (a == b) := by
  simp only [cmpD, ha, hb, Bool.and_self, if_true, PyData.eqv]
theorem fr_inv {n : Int} (h : 0 < n) : fr (dv 1 n) = .tuple [.int 1, .int n] := by
  rw [dv_eq, fr_pos h]
  simp
@[simp] theorem eq_cc : cmpD .Eq (.str "count") (.str "count") = some true := by decide +kernel
@[simp] theorem eq_gc : cmpD .Eq (.str "gap") (.str "count") = some false := by decide +kernel
@[simp] theorem eq_gg : cmpD .Eq (.str "gap") (.str "gap") = some true := by decide +kernel
@[simp] theorem eq_qc : cmpD .Eq (.str "square") (.str "count") = some false := by decide +kernel
@[simp] theorem eq_qg : cmpD .Eq (.str "square") (.str "gap") = some false := by decide +kernel
@[simp] theorem eq_qq : cmpD .Eq (.str "square") (.str "square") = some true := by decide +kernel
@[simp] theorem eq_sc : cmpD .Eq (.str "sen") (.str "count") = some false := by decide +kernel
@[simp] theorem eq_sg : cmpD .Eq (.str "sen") (.str "gap") = some false := by decide +kernel
@[simp] theorem eq_sq : cmpD .Eq (.str "sen") (.str "square") = some false := by decide +kernel
theorem poor_bd {xs : List Int} {L : Rat} (h : L40 xs) : ∀ x ∈ poor xs L, Bd 20 x := fun x hx => Lt h x (poor_mem hx)
theorem poor_40 {xs : List Int} {L : Rat} (h : L40 xs) : (poor xs L).length ≤ 40 := Nat.le_trans (poor_len xs L) h.len
theorem lack_take {xs : List Int} {L : Rat} {i : Nat} : (lack xs L).take i = ((poor xs L).take i).map fun x : Int => L - (x : Rat) := by
  unfold lack
  rw [List.map_take]
theorem take_bd {xs : List Int} {i : Nat} (h : ∀ x ∈ xs, Bd 20 x) : ∀ x ∈ xs.take i, Bd 20 x := fun x hx => h x (List.mem_of_mem_take hx)
theorem inv_bq {xs : List Int} (h : L40 xs) : Bq 6 (dv 1 (xs.length : Int)) := by
  have h1 := h.pos
  have h2 := h.len
  exact bdv (by omega) (by unfold Bd; decide) (by unfold Bd; omega)
theorem p_ls_count (k : Nat) {xs : List Int} {L : Rat} (S : Store) (h : L40 xs) (hL : Line L) : call tab (k + 6) "lack_sum" [.d (tl xs), .d (fr L), .d (.str "count")] S = .ok (.d (fr (dv (poor xs L).length xs.length))) S := by
  rw [call_eq (m := m_lack_sum) rfl rfl]
  have h1 := h.pos
  have h2 := h.len
  have e1 := p_lacks (k + 1) S h hL
  have e2 := nf (k + 3) (poor xs L).length xs.length S 6 (by omega) (by unfold Bd; omega) (by decide)
  have el : (lack xs L).length = (poor xs L).length := by unfold lack; simp
  simp [m_lack_sum, args0, e1, e2, el, isFr]
theorem p_ls_gap (k : Nat) {xs : List Int} {L : Rat} (S : Store) (h : L40 xs) (hL : Line L) : call tab (k + 6) "lack_sum" [.d (tl xs), .d (fr L), .d (.str "gap")] S = .ok (.d (fr (sumQ (lack xs L) * dv 1 xs.length))) S := by
  rw [call_eq (m := m_lack_sum) rfl rfl]
  have h1 := h.pos
  have h2 := h.len
  have e1 := p_lacks (k + 1) S h hL
  have p40 := poor_40 (L := L) h
  have e2 := p_total (k + 1) (lack xs L) S 51 63 _ (.inl rfl) (fun q hq => by
    obtain ⟨x, hx, rfl⟩ := List.mem_map.mp hq
    exact hL.bq.sub (Bq.int (poor_bd h x hx) (by decide))) (fun i hi => by
    rw [lack_take]
    exact bq_lack hL (take_bd (poor_bd h)) (by simp; omega)) (by decide)
  have e3 := p_times (k + 2) _ _ S _ _ (bq_lack hL (poor_bd h) p40) (inv_bq h) (by decide)
  rw [fr_inv (by omega)] at e3
  have e4 : sumQ (lack xs L) = sumQ ((poor xs L).map fun x : Int => L - (x : Rat)) := rfl
  rw [← e4] at e3
  simp [m_lack_sum, args0, e1, e2, e3, lim, isFr]
/-- the squares of what they lack -/
def sqs (xs : List Int) (L : Rat) : List Rat := (poor xs L).map fun x : Int => (L - (x : Rat)) * (L - (x : Rat))
theorem p_ls_sq (k : Nat) {xs : List Int} {L : Rat} (S : Store) (h : L40 xs) (hL : Line L) : call tab (k + 6) "lack_sum" [.d (tl xs), .d (fr L), .d (.str "square")] S = .ok (.d (fr (sumQ (sqs xs L) * dv 1 xs.length))) S := by
  rw [call_eq (m := m_lack_sum) rfl rfl]
  have h1 := h.pos
  have h2 := h.len
  have e1 := p_lacks (k + 1) S h hL
  have p40 := poor_40 (L := L) h
  have c1 := lc_map (g := fun x : Int => fr (L - (x : Rat))) (fun x : Int => fr ((L - (x : Rat)) * (L - (x : Rat)))) (w := ⟨(lack xs L).map fr, []⟩) (base := [some (.d (tl xs)), some (.d (fr L)), some (.d (.str "square")), some (.d (.list ((lack xs L).map fr))), none, none]) (t := .nm 5) (e := evE tab.gl (call tab (k + 5)) (.call "times" (.cons (.var 5) (.cons (.var 5) .nil)))) (S := S) rfl (poor xs L) [] (by simp [lim]; omega) fun x hx => ⟨_, rfl, by
    have b := hL.bq.sub (Bq.int (k := 20) (poor_bd h x hx) (by decide))
    have m := p_times (k + 2) _ _ S _ _ b b (by decide)
    simp [m]⟩
  have ex : (poor xs L).map (fun x : Int => fr (L - (x : Rat))) = (lack xs L).map fr := by unfold lack; rw [List.map_map]; rfl
  have ey : (poor xs L).map (fun x : Int => fr ((L - (x : Rat)) * (L - (x : Rat)))) = (sqs xs L).map fr := by unfold sqs; rw [List.map_map]; rfl
  rw [ex, ey, List.nil_append] at c1
  have e2 := p_total (k + 1) (sqs xs L) S 102 172 _ (.inl rfl) (fun q hq => by
    obtain ⟨x, hx, rfl⟩ := List.mem_map.mp hq
    have b := hL.bq.sub (Bq.int (k := 20) (poor_bd h x hx) (by decide))
    exact b.mul b) (fun i hi => by
    unfold sqs
    rw [← List.map_take]
    exact bq_sq hL (take_bd (poor_bd h)) (by simp; omega)) (by decide)
  have e3 := p_times (k + 2) _ _ S _ _ (bq_sq hL (poor_bd h) p40) (inv_bq h) (by decide)
  rw [fr_inv (by omega)] at e3
  have e4 : sumQ (sqs xs L) = sumQ ((poor xs L).map fun x : Int => (L - (x : Rat)) * (L - (x : Rat))) := rfl
  rw [← e4] at e3
  simp [m_lack_sum, args0, e1, x_lc, c1, noErr_okL, e2, e3, lim, isFr]
theorem line_ne {L : Rat} (hL : Line L) : L ≠ 0 := fun z => by
  have := hL.pos
  rw [z] at this
  exact absurd this (by decide)
theorem p_po_count (k : Nat) {xs : List Int} {L : Rat} (S : Store) (h : L40 xs) (hL : Line L) : call tab (k + 7) "poverty_of" [.d (tl xs), .d (fr L), .d (.str "count")] S = .ok (.d (fr (dv (poor xs L).length xs.length))) S := by
  rw [call_eq (m := m_poverty_of) rfl rfl]
  simp [m_poverty_of, args0, p_ls_count k S h hL, isFr]
theorem p_po_gap (k : Nat) {xs : List Int} {L : Rat} (S : Store) (h : L40 xs) (hL : Line L) : call tab (k + 7) "poverty_of" [.d (tl xs), .d (fr L), .d (.str "gap")] S = .ok (.d (fr (sumQ (lack xs L) * dv 1 xs.length / L))) S := by
  rw [call_eq (m := m_poverty_of) rfl rfl]
  have b : Bq 69 (sumQ (lack xs L) * dv 1 xs.length) := (bq_lack hL (poor_bd h) (poor_40 h)).mul (inv_bq h)
  have e := p_over (k + 3) _ _ S _ _ (line_ne hL) b hL.bq (by decide)
  simp [m_poverty_of, args0, p_ls_gap k S h hL, e, isFr]
theorem p_po_sq (k : Nat) {xs : List Int} {L : Rat} (S : Store) (h : L40 xs) (hL : Line L) : call tab (k + 7) "poverty_of" [.d (tl xs), .d (fr L), .d (.str "square")] S = .ok (.d (fr (sumQ (sqs xs L) * dv 1 xs.length / (L * L)))) S := by
  rw [call_eq (m := m_poverty_of) rfl rfl]
  have b : Bq 178 (sumQ (sqs xs L) * dv 1 xs.length) := (bq_sq hL (poor_bd h) (poor_40 h)).mul (inv_bq h)
  have n2 : L * L ≠ 0 := by
    have := line_ne hL
    grind
  have m := p_times (k + 3) L L S _ _ hL.bq hL.bq (by decide)
  have e := p_over (k + 3) _ _ S _ _ n2 b (hL.bq.mul hL.bq) (by decide)
  simp [m_poverty_of, args0, p_ls_sq k S h hL, m, e, isFr]
/-! ### sen -/
theorem enumD_lack (L : Rat) : ∀ (ps : List Int) (i : Nat), enumD i ((ps.map fun x : Int => L - (x : Rat)).map fr) = (enumI i ps).map fun p : Int × Int => PyData.tuple [.int p.1, fr (L - (p.2 : Rat))]
  | [], _ => rfl
  | x :: r, i => by
    rw [List.map_cons, List.map_cons, enumD, enumI, List.map_cons, enumD_lack L r (i + 1)]
    rfl
def wl (xs : List Int) (L : Rat) : List Rat := (enumI 0 (poor xs L)).map fun p : Int × Int => (L - (p.2 : Rat)) * ((((poor xs L).length : Int) - p.1 : Int) : Rat)
theorem sum_wl (L : Rat) (c : Int) (ps : List (Int × Int)) : sumQ (ps.map fun p : Int × Int => (L - (p.2 : Rat)) * ((c - p.1 : Int) : Rat)) = L * (((ps.map fun p : Int × Int => c - p.1).sum : Int) : Rat) - (((ps.map fun p : Int × Int => p.2 * (c - p.1)).sum : Int) : Rat) := by
  induction ps with
  | nil =>
    show (0 : Rat) = L * ((0 : Int) : Rat) - ((0 : Int) : Rat)
    have : ((0 : Int) : Rat) = 0 := rfl
    rw [this]
    grind
  | cons p r ih =>
    rw [List.map_cons, sumQ_cons, ih, List.map_cons, List.map_cons, List.sum_cons, List.sum_cons, Rat.intCast_add, Rat.intCast_add, Rat.intCast_mul]
    grind
theorem bq_wl {L : Rat} {c : Int} {ps : List (Int × Int)} (hL : Line L) (hc : 0 ≤ c ∧ c ≤ 40) (hp : ∀ p ∈ ps, 0 ≤ p.1 ∧ p.1 ≤ 40 ∧ Bd 20 p.2) (hn : ps.length ≤ 40) : Bq 80 (sumQ (ps.map fun p : Int × Int => (L - (p.2 : Rat)) * ((c - p.1 : Int) : Rat))) := by
  rw [sum_wl]
  have b7 : ∀ p ∈ ps, Bd 7 (c - p.1) := fun p hp' => by
    have := hp p hp'
    unfold Bd
    omega
  have a : Bq 43 (L * (((ps.map fun p : Int × Int => c - p.1).sum : Int) : Rat)) := hL.bq.mul (Bq.int (k := 13) (bd_sum (k := 7) (n := 6) (fun y hy => by
    obtain ⟨p, hp', rfl⟩ := List.mem_map.mp hy
    exact b7 p hp') (by rw [List.length_map]; omega)) (by decide))
  have b : Bq 33 (((ps.map fun p : Int × Int => p.2 * (c - p.1)).sum : Int) : Rat) := Bq.int (bd_sum (k := 27) (n := 6) (fun y hy => by
    obtain ⟨p, hp', rfl⟩ := List.mem_map.mp hy
    exact (hp p hp').2.2.mul (b7 p hp')) (by rw [List.length_map]; omega)) (by decide)
  exact (a.sub b).mono (by decide)
theorem p_po_sen (k : Nat) {xs : List Int} {L : Rat} (S : Store) (h : L40 xs) (hL : Line L) : call tab (k + 7) "poverty_of" [.d (tl xs), .d (fr L), .d (.str "sen")] S =
    .ok (.d (fr (sumQ (wl xs L) * 2 / (L * (((((poor xs L).length : Int) + 1) * (xs.length : Int) : Int) : Rat))))) S := by
  rw [call_eq (m := m_poverty_of) rfl rfl]
  have h1 := h.pos
  have h2 := h.len
  have p40 := poor_40 (L := L) h
  have e1 := p_lacks (k + 2) S h hL
  have el : (lack xs L).length = (poor xs L).length := by unfold lack; simp
  have pm : ∀ p ∈ enumI 0 (poor xs L), 0 ≤ p.1 ∧ p.1 ≤ 40 ∧ Bd 20 p.2 := fun p hp => by
    obtain ⟨q1, q2, q3⟩ := enumI_mem hp
    exact ⟨q1, by omega, poor_bd h p.2 q3⟩
  have bI : ∀ p ∈ enumI 0 (poor xs L), Bq 51 (L - (p.2 : Rat)) := fun p hp => hL.bq.sub (Bq.int (k := 20) (pm p hp).2.2 (by decide))
  have bW : ∀ p ∈ enumI 0 (poor xs L), Bq 7 ((((poor xs L).length : Int) - p.1 : Int) : Rat) := fun p hp => Bq.int (by
    have := pm p hp
    unfold Bd
    omega) (by decide)
  have c1 := lc_map (g := fun p : Int × Int => PyData.tuple [.int p.1, fr (L - (p.2 : Rat))]) (fun p : Int × Int => fr ((L - (p.2 : Rat)) * ((((poor xs L).length : Int) - p.1 : Int) : Rat))) (w := ⟨enumD 0 ((lack xs L).map fr), []⟩) (base := [some (.d (tl xs)), some (.d (fr L)), some (.d (.str "sen")), some (.d (.list ((lack xs L).map fr))), some (.d (.int (poor xs L).length)), none, none, none]) (t := .tp (.cons (.nm 6) (.cons (.nm 7) .nil))) (e := evE tab.gl (call tab (k + 6)) (.call "times" (.cons (.var 7) (.cons (.tup (.cons (.bin .Sub (.var 4) (.var 6)) (.cons (.cint 1) .nil))) .nil)))) (S := S) rfl (enumI 0 (poor xs L)) [] (by simp [lim, enumI_len]; omega) fun p hp => ⟨_, rfl, by
    have m := p_times (k + 3) _ _ S _ _ (bI p hp) (bW p hp) (by decide)
    rw [fr_int] at m
    simp [lim, m]⟩
  have en : enumD 0 ((lack xs L).map fr) = (enumI 0 (poor xs L)).map fun p : Int × Int => PyData.tuple [.int p.1, fr (L - (p.2 : Rat))] := enumD_lack L (poor xs L) 0
  have ey : (enumI 0 (poor xs L)).map (fun p : Int × Int => fr ((L - (p.2 : Rat)) * ((((poor xs L).length : Int) - p.1 : Int) : Rat))) = (wl xs L).map fr := by unfold wl; rw [List.map_map]; rfl
  rw [← en, ey, List.nil_append] at c1
  have e2 := p_total (k + 2) (wl xs L) S 58 80 _ (.inl rfl) (fun q hq => by
    obtain ⟨p, hp, rfl⟩ := List.mem_map.mp hq
    exact (bI p hp).mul (bW p hp)) (fun i hi => by
    unfold wl
    rw [← List.map_take]
    exact bq_wl hL ⟨by omega, by omega⟩ (fun p hp => pm p (List.mem_of_mem_take hp)) (by simp [enumI_len]; omega)) (by decide)
  have bS : Bq 80 (sumQ (wl xs L)) := bq_wl hL ⟨by omega, by omega⟩ pm (by rw [enumI_len]; omega)
  have b2 : Bq 2 (2 : Rat) := ⟨by unfold Bd; decide, by unfold Bd; decide⟩
  have e3 := p_times (k + 3) _ _ S _ _ bS b2 (by decide)
  have bN : Bq 13 (((((poor xs L).length : Int) + 1) * (xs.length : Int) : Int) : Rat) := Bq.int (Bd.mul (k := 7) (l := 6) (by unfold Bd; omega) (by unfold Bd; omega)) (by decide)
  have e4 := p_times (k + 3) _ _ S _ _ hL.bq bN (by decide)
  have nz : L * (((((poor xs L).length : Int) + 1) * (xs.length : Int) : Int) : Rat) ≠ 0 := by
    have a := line_ne hL
    have b : ((((((poor xs L).length : Int) + 1) * (xs.length : Int) : Int)) : Rat) ≠ 0 := rat_ne (Int.mul_ne_zero (by omega) (by omega))
    grind
  have e5 := p_over (k + 3) _ _ S _ _ nz (bS.mul b2) (hL.bq.mul bN) (by decide)
  have f2 : fr (2 : Rat) = .tuple [.int 2, .int 1] := rfl
  have m1 := mulB (a := ((poor xs L).length : Int) + 1) (b := (xs.length : Int)) (k := 7) (l := 6) (by unfold Bd; omega) (by unfold Bd; omega) (by decide) (by decide)
  rw [f2] at e3
  rw [fr_int] at e4
  generalize ((((poor xs L).length : Int) + 1) * (xs.length : Int)) = N at e4 e5 m1 ⊢
  simp [m_poverty_of, args0, e1, el, x_lc, c1, noErr_okL, e2, e3, m1, e4, e5, lim, isFr]
end K35
namespace K35
open PySem Rf Lb
def db : MSs := (.cons (.asg 8 (.call "_law_minus" (.cons (.var 1) (.cons (.tup (.cons (.idx (.var 3) (.var 7)) (.cons (.cint 1) .nil))) .nil)))) (.cons 
(.ife (.cmp .Eq (.var 2) (.cstr "count")) (.cons 
(.asg 6 (.call "_law_plus" (.cons (.var 6) (.cons (.var 1) .nil)))) .nil) (.cons 
(.ife (.cmp .Eq (.var 2) (.cstr "gap")) (.cons 
(.asg 6 (.call "_law_plus" (.cons (.var 6) (.cons (.var 8) .nil)))) .nil) (.cons 
(.ife (.cmp .Eq (.var 2) (.cstr "square")) (.cons 
(.asg 6 (.call "_law_plus" (.cons (.var 6) (.cons (.call "_law_over" (.cons (.call "_law_times" (.cons (.var 8) (.cons (.var 8) .nil))) (.cons (.var 1) .nil))) .nil)))) .nil) (.cons 
(.asg 6 (.call "_law_plus" (.cons (.var 6) (.cons (.call "_law_times" (.cons (.var 8) (.cons (.call "_law_fraction" (.cons (.bin .Mult (.cint 2) (.bin .Sub (.blt .len (.cons (.var 3) .nil)) (.var 7))) (.cons (.bin .Add (.blt .len (.cons (.var 3) .nil)) (.cint 1)) .nil))) .nil))) .nil)))) .nil)) .nil)) .nil)) .nil))
theorem l_due (k : Nat) {xs : List Int} {L : Rat} (S : Store) (h : L40 xs) (hL : Line L) (w : Str) (qs : List Rat) (hq : qs.length = (poor xs L).length) (hB : Bq 300 (sumQ qs))
    (hb : ∀ (i : Nat) (q : Rat) (x : Int) (u4 u8 : Option Val), qs[i]? = some q → (poor xs L)[i]? = some x → evSs tab.gl (call tab (k + 3)) tab.fr tab.xm tab.xi db [some (.d (tl xs)), some (.d (fr L)), some (.d (.str w)), some (.d (.list ((poor xs L).map .int))), u4, some (.d (fr (L * ((xs.length : Int) : Rat)))), some (.d (fr (sumQ (qs.take i)))), some (.d (.int i)), u8] S =
      .next [some (.d (tl xs)), some (.d (fr L)), some (.d (.str w)), some (.d (.list ((poor xs L).map .int))), u4, some (.d (fr (L * ((xs.length : Int) : Rat)))), some (.d (fr (sumQ (qs.take i) + q))), some (.d (.int i)), some (.d (fr (L - (x : Rat))))] S) :
    call tab (k + 4) "_law_due" [.d (tl xs), .d (fr L), .d (.str w)] S = .ok (.d (fr (sumQ qs / (L * ((xs.length : Int) : Rat))))) S := by
  rw [call_eq (m := m_L_due) rfl rfl]
  have h1 := h.pos
  have h2 := h.len
  have p40 := poor_40 (L := L) h
  have c1 := lc_filter (g := PyData.int) (fun x : Int => decide ((x : Rat) < L)) (fun x : Int => PyData.int x) (w := ⟨xs.map .int, []⟩) (base := [some (.d (tl xs)), some (.d (fr L)), some (.d (.str w)), none, none, none, none, none, none]) (t := .nm 4) (c := evE tab.gl (call tab (k + 3)) (.call "_law_less" (.cons (.tup (.cons (.var 4) (.cons (.cint 1) .nil))) (.cons (.var 1) .nil)))) (e := evE tab.gl (call tab (k + 3)) (.var 4)) (S := S) rfl xs [] (by simp [lim]; omega) fun x hx => ⟨_, rfl, by
    have b := l_less (k + 2) (x : Rat) L S 20 30 (Bq.int (Lt h x hx) (by decide)) hL.bq (by decide) (by decide)
    rw [fr_int] at b
    simp [lim, b], fun _ => by simp⟩
  have ep : (xs.filter fun x : Int => decide ((x : Rat) < L)).map (fun x : Int => PyData.int x) = (poor xs L).map .int := rfl
  rw [ep, List.nil_append] at c1
  have bN : Bq 6 ((xs.length : Int) : Rat) := Bq.int (by unfold Bd; omega) (by decide)
  have e2 := l_times (k + 1) _ _ S _ _ hL.bq bN (by decide)
  rw [fr_int] at e2
  have g1 : -100000000 ≤ ((poor xs L).length : Int) ∧ ((poor xs L).length : Int) ≤ 100000000 := by omega
  have nz : L * ((xs.length : Int) : Rat) ≠ 0 := by
    have a := line_ne hL
    have b : ((xs.length : Int) : Rat) ≠ 0 := rat_ne (by omega)
    grind
  have e3 := l_over (k + 1) _ _ S _ _ nz hB (hL.bq.mul bN) (by decide)
  simp [-List.map_map, m_L_due, args0, x_lc, c1, noErr_okL, e2, lim, s_for, g1]
  generalize hG : forLoop _ _ _ _ _ _ _ = G
  obtain ⟨r', S', e, rfl, u4, u7, u8, rfl⟩ : ∃ r' S', G = .next r' S' ∧ S' = S ∧ ∃ u4 u7 u8, r' = [some (.d (tl xs)), some (.d (fr L)), some (.d (.str w)), some (.d (.list ((poor xs L).map .int))), u4, some (.d (fr (L * ((xs.length : Int) : Rat)))), some (.d (fr (sumQ qs))), u7, u8] := by
    rw [← hG]
    refine for_run (fun i r S' => S' = S ∧ ∃ u4 u7 u8, r = [some (.d (tl xs)), some (.d (fr L)), some (.d (.str w)), some (.d (.list ((poor xs L).map .int))), u4, some (.d (fr (L * ((xs.length : Int) : Rat)))), some (.d (fr (sumQ (qs.take i)))), u7, u8]) (fun _ _ _ _ => rfl) ⟨rfl, none, none, none, rfl⟩ (fun r S' hh => by
      rw [upto_len, ← hq, List.take_length] at hh
      exact hh) ?_
    rintro i y r S1 hy ⟨rfl, u4, u7, u8, rfl⟩
    obtain ⟨rfl, hi⟩ := upto_get _ _ _ _ hy
    have hq2 : qs[i]? = some qs[i] := List.getElem?_eq_getElem (by omega)
    have hx2 : (poor xs L)[i]? = some (poor xs L)[i] := List.getElem?_eq_getElem hi
    have b := hb i _ _ u4 u8 hq2 hx2
    have tk1 : qs.take (i + 1) = qs.take i ++ [qs[i]] := by rw [List.take_add_one, hq2]; rfl
    refine ⟨_, rfl, _, _, .inl (by
      have z : (0 : Int) + (i : Int) = i := by omega
      rw [z]
      exact b), List.take_length, killV S1.length u4, _, _, by rw [tk1, sumQ_app]; rfl⟩
  subst e
  simp [e3, isFr]
theorem db_minus (k : Nat) {xs : List Int} {L : Rat} (S : Store) (h : L40 xs) (hL : Line L) {i : Nat} {x : Int} (hx : (poor xs L)[i]? = some x) :
    idxD (.list ((poor xs L).map .int)) (i : Int) = some (.int x) ∧ call tab (k + 3) "_law_minus" [.d (fr L), .d (.tuple [.int x, .int 1])] S = .ok (.d (fr (L - (x : Rat)))) S ∧ Bq 51 (L - (x : Rat)) := by
  have hx2 : x ∈ poor xs L := List.mem_of_getElem? hx
  have bx : Bq 20 (x : Rat) := Bq.int (poor_bd h x hx2) (by decide)
  have e := l_minus (k + 1) L (x : Rat) S _ _ hL.bq bx (by decide)
  rw [fr_int] at e
  refine ⟨idxL (by omega) ?_, e, hL.bq.sub bx⟩
  rw [Int.toNat_natCast, List.getElem?_map, hx]
  rfl
theorem due_gap (k : Nat) {xs : List Int} {L : Rat} (S : Store) (h : L40 xs) (hL : Line L) : call tab (k + 4) "_law_due" [.d (tl xs), .d (fr L), .d (.str "gap")] S = .ok (.d (fr (sumQ (lack xs L) / (L * ((xs.length : Int) : Rat))))) S := by
  refine l_due k S h hL "gap" (lack xs L) (by unfold lack; simp) ((bq_lack hL (poor_bd h) (poor_40 h)).mono (by decide)) fun i q x u4 u8 hq hx => ?_
  obtain ⟨e1, e2, e3⟩ := db_minus k S h hL hx
  have eq : q = L - (x : Rat) := by
    unfold lack at hq
    rw [List.getElem?_map, hx] at hq
    exact (Option.some.inj hq).symm
  subst eq
  have bF : Bq 63 (sumQ ((lack xs L).take i)) := by
    rw [lack_take]
    exact bq_lack hL (take_bd (poor_bd h)) (by have := poor_40 (L := L) h; simp; omega)
  have e4 := l_plus (k + 1) _ _ S _ _ bF e3 (by decide)
  simp [db, e1, lim, e2, e4]
theorem sum_rep (L : Rat) : ∀ m : Nat, sumQ (List.replicate m L) = ((m : Int) : Rat) * L
  | 0 => by
    show (0 : Rat) = ((0 : Int) : Rat) * L
    have : ((0 : Int) : Rat) = 0 := rfl
    rw [this]
    grind
  | m + 1 => by
    rw [List.replicate_succ, sumQ_cons, sum_rep L m, show ((m + 1 : Nat) : Int) = (m : Int) + 1 by omega, Rat.intCast_add]
    have : ((1 : Int) : Rat) = 1 := rfl
    rw [this]
    grind
theorem due_count (k : Nat) {xs : List Int} {L : Rat} (S : Store) (h : L40 xs) (hL : Line L) : call tab (k + 4) "_law_due" [.d (tl xs), .d (fr L), .d (.str "count")] S = .ok (.d (fr (sumQ (List.replicate (poor xs L).length L) / (L * ((xs.length : Int) : Rat))))) S := by
  have p40 := poor_40 (L := L) h
  have bR : ∀ m : Nat, m ≤ 40 → Bq 36 (sumQ (List.replicate m L)) := fun m hm => by
    rw [sum_rep]
    exact (Bq.int (k := 6) (by unfold Bd; omega) (by decide)).mul hL.bq
  refine l_due k S h hL "count" _ (by simp) ((bR _ p40).mono (by decide)) fun i q x u4 u8 hq hx => ?_
  obtain ⟨e1, e2, e3⟩ := db_minus k S h hL hx
  have eq : q = L := (List.mem_replicate.mp (List.mem_of_getElem? hq)).2
  subst eq
  have bF : Bq 36 (sumQ ((List.replicate (poor xs q).length q).take i)) := by
    rw [List.take_replicate]
    exact bR _ (by omega)
  have e4 := l_plus (k + 1) _ _ S _ _ bF hL.bq (by decide)
  simp [-List.take_replicate, db, e1, lim, e2, e4]
theorem due_sq (k : Nat) {xs : List Int} {L : Rat} (S : Store) (h : L40 xs) (hL : Line L) : call tab (k + 4) "_law_due" [.d (tl xs), .d (fr L), .d (.str "square")] S = .ok (.d (fr (sumQ ((sqs xs L).map (· / L)) / (L * ((xs.length : Int) : Rat))))) S := by
  have p40 := poor_40 (L := L) h
  have sm : ∀ qs : List Rat, sumQ (qs.map (· / L)) = sumQ qs / L := fun qs => by
    induction qs with
    | nil =>
      show (0 : Rat) = 0 / L
      have := line_ne hL
      grind
    | cons q r ih =>
      rw [List.map_cons, sumQ_cons, sumQ_cons, ih]
      have := line_ne hL
      grind
  have bR : ∀ i, i ≤ 40 → Bq 202 (sumQ (((sqs xs L).map (· / L)).take i)) := fun i hi => by
    rw [← List.map_take, sm]
    unfold sqs
    rw [← List.map_take]
    exact (bq_sq hL (take_bd (poor_bd h)) (by simp; omega)).div (line_ne hL) hL.bq
  have ln : ((sqs xs L).map (· / L)).length = (poor xs L).length := by unfold sqs; simp
  refine l_due k S h hL "square" _ ln (by
    have := bR _ (Nat.le_trans (Nat.le_of_eq ln) p40)
    rw [List.take_length] at this
    exact this.mono (by decide)) fun i q x u4 u8 hq hx => ?_
  obtain ⟨e1, e2, e3⟩ := db_minus k S h hL hx
  have eq : q = (L - (x : Rat)) * (L - (x : Rat)) / L := by
    unfold sqs at hq
    rw [List.getElem?_map, List.getElem?_map, hx] at hq
    exact (Option.some.inj hq).symm
  subst eq
  have hi := (List.getElem?_eq_some_iff.mp hx).1
  have e4 := l_times (k + 1) _ _ S _ _ e3 e3 (by decide)
  have e5 := l_over (k + 1) _ _ S _ _ (line_ne hL) (e3.mul e3) hL.bq (by decide)
  have e6 := l_plus (k + 1) _ _ S _ _ (bR i (by omega)) ((e3.mul e3).div (line_ne hL) hL.bq) (by decide)
  simp [-List.map_take, db, e1, lim, e2, e4, e5, e6]
end K35
namespace K35
open PySem Rf Lb
def sl (xs : List Int) (L : Rat) : List Rat := (enumI 0 (poor xs L)).map fun p : Int × Int => (L - (p.2 : Rat)) * dv (2 * (((poor xs L).length : Int) - p.1)) (((poor xs L).length : Int) + 1)
theorem sum_sl (L : Rat) (c : Int) (hc : 0 ≤ c) (ps : List (Int × Int)) : sumQ (ps.map fun p : Int × Int => (L - (p.2 : Rat)) * dv (2 * (c - p.1)) (c + 1)) = sumQ (ps.map fun p : Int × Int => (L - (p.2 : Rat)) * ((c - p.1 : Int) : Rat)) * 2 / ((c + 1 : Int) : Rat) := by
  have hz : ((c + 1 : Int) : Rat) ≠ 0 := rat_ne (by omega)
  induction ps with
  | nil =>
    show (0 : Rat) = 0 * 2 / ((c + 1 : Int) : Rat)
    grind
  | cons p r ih =>
    rw [List.map_cons, List.map_cons, sumQ_cons, sumQ_cons, ih, dv_div, Rat.intCast_mul]
    have h2 : ((2 : Int) : Rat) = 2 := rfl
    rw [h2]
    generalize ((c + 1 : Int) : Rat) = d at *
    generalize ((c - p.1 : Int) : Rat) = e at *
    grind
theorem enumI_get : ∀ {ps : List Int} {a : Int} {i : Nat} {x : Int}, ps[i]? = some x → (enumI a ps)[i]? = some (a + i, x)
  | [], _, _, _, h => by simp at h
  | y :: r, a, 0, x, h => by
    simp only [List.getElem?_cons_zero, Option.some.injEq] at h
    subst h
    simp [enumI]
  | y :: r, a, i + 1, x, h => by
    simp only [List.getElem?_cons_succ] at h
    rw [enumI, List.getElem?_cons_succ, enumI_get h]
    congr 2
    omega
theorem due_sen (k : Nat) {xs : List Int} {L : Rat} (S : Store) (h : L40 xs) (hL : Line L) : call tab (k + 4) "_law_due" [.d (tl xs), .d (fr L), .d (.str "sen")] S = .ok (.d (fr (sumQ (sl xs L) / (L * ((xs.length : Int) : Rat))))) S := by
  have p40 := poor_40 (L := L) h
  have pm : ∀ p ∈ enumI 0 (poor xs L), 0 ≤ p.1 ∧ p.1 ≤ 40 ∧ Bd 20 p.2 := fun p hp => by
    obtain ⟨q1, q2, q3⟩ := enumI_mem hp
    exact ⟨q1, by omega, poor_bd h p.2 q3⟩
  have bR : ∀ i, Bq 90 (sumQ ((sl xs L).take i)) := fun i => by
    unfold sl
    rw [← List.map_take, sum_sl L _ (by omega)]
    have a := bq_wl (c := ((poor xs L).length : Int)) (ps := (enumI 0 (poor xs L)).take i) hL ⟨by omega, by omega⟩ (fun p hp => pm p (List.mem_of_mem_take hp)) (by simp [enumI_len]; omega)
    have b2 : Bq 2 (2 : Rat) := ⟨by unfold Bd; decide, by unfold Bd; decide⟩
    exact ((a.mul b2).div (rat_ne (by omega)) (Bq.int (k := 6) (by unfold Bd; omega) (by decide))).mono (by decide)
  have ln : (sl xs L).length = (poor xs L).length := by unfold sl; rw [List.length_map, enumI_len]
  refine l_due k S h hL "sen" _ ln (by
    have := bR (sl xs L).length
    rw [List.take_length] at this
    exact this.mono (by decide)) fun i q x u4 u8 hq hx => ?_
  obtain ⟨e1, e2, e3⟩ := db_minus k S h hL hx
  have hi := (List.getElem?_eq_some_iff.mp hx).1
  have eq : q = (L - (x : Rat)) * dv (2 * (((poor xs L).length : Int) - (i : Int))) (((poor xs L).length : Int) + 1) := by
    unfold sl at hq
    rw [List.getElem?_map, enumI_get hx, Option.map_some] at hq
    have := (Option.some.inj hq).symm
    rw [this, Int.zero_add]
  subst eq
  have m1 := mul2 (a := ((poor xs L).length : Int) - (i : Int)) (k := 6) (by unfold Bd; omega) (by decide)
  have e4 := nl (k + 2) (2 * (((poor xs L).length : Int) - (i : Int))) (((poor xs L).length : Int) + 1) S 6 (by omega) (by unfold Bd; omega) (by decide)
  have bD : Bq 7 (dv (2 * (((poor xs L).length : Int) - (i : Int))) (((poor xs L).length : Int) + 1)) := bdv (by omega) (by unfold Bd; omega) (by unfold Bd; omega)
  have e5 := l_times (k + 1) _ _ S _ _ e3 bD (by decide)
  have e6 := l_plus (k + 1) _ _ S _ _ (bR i) (e3.mul bD) (by decide)
  simp [-List.map_take, db, e1, lim, e2, m1, e4, e5, e6]
/-- the four words -/
def wd : Nat → Str
  | 0 => "count"
  | 1 => "gap"
  | 2 => "square"
  | _ => "sen"
/-- poverty -/
def pv (w : Nat) (xs : List Int) (L : Rat) : Rat := match w with
  | 0 => dv (poor xs L).length xs.length
  | 1 => sumQ (lack xs L) / (L * ((xs.length : Int) : Rat))
  | 2 => sumQ (sqs xs L) / (L * L * ((xs.length : Int) : Rat))
  | _ => sumQ (wl xs L) * 2 / (L * (((((poor xs L).length : Int) + 1) * (xs.length : Int) : Int) : Rat))
theorem pov (w : Nat) (k : Nat) {xs : List Int} {L : Rat} (S : Store) (h : L40 xs) (hL : Line L) : call tab (k + 7) "poverty_of" [.d (tl xs), .d (fr L), .d (.str (wd w))] S = .ok (.d (fr (pv w xs L))) S := by
  have h1 := h.pos
  have n1 : ((xs.length : Int) : Rat) ≠ 0 := rat_ne (by omega)
  have l1 := line_ne hL
  have o1 : ((1 : Int) : Rat) = 1 := rfl
  match w with
  | 0 => exact p_po_count k S h hL
  | 1 =>
    rw [show wd 1 = "gap" from rfl, p_po_gap k S h hL]
    unfold pv
    simp only
    rw [dv_div, o1]
    congr 3
    grind
  | 2 =>
    rw [show wd 2 = "square" from rfl, p_po_sq k S h hL]
    unfold pv
    simp only
    rw [dv_div, o1]
    congr 3
    grind
  | _ + 3 => exact p_po_sen k S h hL
theorem due (w : Nat) (k : Nat) {xs : List Int} {L : Rat} (S : Store) (h : L40 xs) (hL : Line L) : call tab (k + 4) "_law_due" [.d (tl xs), .d (fr L), .d (.str (wd w))] S = .ok (.d (fr (pv w xs L))) S := by
  have h1 := h.pos
  have n1 : ((xs.length : Int) : Rat) ≠ 0 := rat_ne (by omega)
  have l1 := line_ne hL
  match w with
  | 0 =>
    rw [show wd 0 = "count" from rfl, due_count k S h hL, sum_rep]
    unfold pv
    simp only
    rw [dv_div]
    congr 3
    grind
  | 1 => exact due_gap k S h hL
  | 2 =>
    rw [show wd 2 = "square" from rfl, due_sq k S h hL]
    unfold pv
    simp only
    have sm : ∀ qs : List Rat, sumQ (qs.map (· / L)) = sumQ qs / L := fun qs => by
      induction qs with
      | nil =>
        show (0 : Rat) = 0 / L
        grind
      | cons q r ih =>
        rw [List.map_cons, sumQ_cons, sumQ_cons, ih]
        grind
    rw [sm]
    congr 3
    grind
  | _ + 3 =>
    show call tab (k + 4) "_law_due" [.d (tl xs), .d (fr L), .d (.str "sen")] S = _
    rw [due_sen k S h hL]
    unfold pv
    simp only
    have sw : sumQ (sl xs L) = sumQ (wl xs L) * 2 / ((((poor xs L).length : Int) + 1 : Int) : Rat) := sum_sl L _ (by omega) _
    rw [sw, Rat.intCast_mul]
    have nz : ((((poor xs L).length : Int) + 1 : Int) : Rat) ≠ 0 := rat_ne (by omega)
    congr 3
    grind
end K35
namespace K35
open PySem Rf Lb
def mal : Exn := ⟨"Malformed", none⟩
/-- what is a line -/
def isLine : D → Bool
  | .tuple [.int a, .int b] => isRatio (.tuple [.int a, .int b]) && decide (0 < a)
  | _ => false
theorem p_is_line (k : Nat) (v : D) (S : Store) (hB : ∀ a b, v = .tuple [.int a, .int b] → Bd 100000 b) : call tab (k + 3) "is_line" [.d v] S = .ok (.d (.bool (isLine v))) S := by
  rw [call_eq (m := m_is_line) rfl rfl]
  have e := isr k v S hB
  by_cases hr : isRatio v = true
  · obtain ⟨a, b, rfl⟩ : ∃ a b, v = .tuple [.int a, .int b] := by
      unfold isRatio at hr
      split at hr
      · exact ⟨_, _, rfl⟩
      · cases hr
    simp [m_is_line, args0, e, hr, isFr, isLine]
  · have hl : isLine v = false := by
      unfold isLine
      split
      · simp_all
      · rfl
    simp [m_is_line, args0, e, hr, isFr, hl]
theorem p_chk_line (k : Nat) (v : D) (S : Store) (hB : ∀ a b, v = .tuple [.int a, .int b] → Bd 100000 b) : call tab (k + 4) "check_line" [.d v] S = if isLine v then .ok (.d .none) S else .err mal S := by
  rw [call_eq (m := m_check_line) rfl rfl]
  have e := p_is_line k v S hB
  cases hv : isLine v <;> simp [m_check_line, args0, e, hv, mal]
theorem isLine_fr {L : Rat} (h : 0 < L) : isLine (fr L) = true := by
  have : 0 < L.num := by
    have a := Rat.num_nonneg (q := L)
    have b : L.num ≠ 0 := fun z => by
      rw [Rat.num_eq_zero.mp z] at h
      exact absurd h (by decide)
    have c : 0 ≤ L := by grind
    have := a.mpr c
    omega
  have r := isRatio_fr L
  unfold fr at r ⊢
  unfold isLine
  simp only [r, this, decide_true, Bool.and_self]
def pw4 : D := .tuple [.str "count", .str "gap", .str "square", .str "sen"]
def pw3 : D := .tuple [.str "count", .str "gap", .str "square"]
theorem p_chk_word (k : Nat) (v ws : D) (S : Store) (b : Bool) (h : (∀ s, v = .str s → cmpD .NotIn v ws = some (!b)) ∧ ((∀ s, v ≠ .str s) → b = false)) : call tab (k + 1) "check_poor_word" [.d v, .d ws] S = if b then .ok (.d .none) S else .err mal S := by
  rw [call_eq (m := m_check_poor_word) rfl rfl]
  cases v
  case str s =>
    have e := h.1 s rfl
    cases b <;> simp [m_check_poor_word, args0, isi_str, e, mal]
  all_goals
    have e : b = false := h.2 (fun s z => nomatch z)
    subst e
    simp [m_check_poor_word, args0, isi_str, mal]
theorem chkL (k : Nat) {xs : List Int} (S : Store) (h : L40 xs) : call tab (k + 4) "check_lot" [.d (tl xs)] S = .ok (.d .none) S := by
  rw [chk, isLot_of h (by decide) (by decide)]
  rfl
theorem w4 (w : Nat) : cmpD .NotIn (.str (wd w)) pw4 = some false := by
  match w with
  | 0 => decide +kernel
  | 1 => decide +kernel
  | 2 => decide +kernel
  | _ + 3 => show cmpD .NotIn (.str "sen") pw4 = some false; decide +kernel
theorem p_poverty (w : Nat) (k : Nat) {xs : List Int} {L : Rat} (S : Store) (h : L40 xs) (hL : Line L) : call tab (k + 8) "poverty" [.d (tl xs), .d (fr L), .d (.str (wd w))] S = .ok (.d (fr (pv w xs L))) S := by
  rw [call_eq (m := m_poverty) rfl rfl]
  have e1 := chkL (k + 3) S h
  have e2 := p_chk_line (k + 3) (fr L) S (fun a b z => by
    unfold fr at z
    have : b = (L.den : Int) := by
      injection z with z
      simp at z
      exact z.2.symm
    rw [this]
    exact hL.bq.2.mono (by decide))
  rw [isLine_fr hL.pos, if_pos rfl] at e2
  have e3 := p_chk_word (k + 6) (.str (wd w)) pw4 S true ⟨fun s z => w4 w, fun z => absurd rfl (z (wd w))⟩
  rw [if_pos rfl] at e3
  have e4 := pov w k S h hL
  have g : tab.gl "POOR_WORDS" = some (.d pw4) := rfl
  simp [m_poverty, args0, e1, e2, e3, e4, g, isFr]
end K35
namespace K35
open PySem Rf Lb
theorem rat_pos {n : Int} (h : 0 < n) : (0 : Rat) < (n : Rat) := by
  have : ((0 : Int) : Rat) < (n : Rat) := Rat.intCast_lt_intCast.mpr h
  exact this
theorem dv_pos {n d : Int} (hn : 0 < n) (hd : 0 < d) : 0 < dv n d := by
  rw [dv_div]
  have a := rat_pos hn
  have b := rat_pos hd
  rw [Rat.div_def]
  exact Rat.mul_pos a (Rat.inv_pos.mpr b)
theorem line_dv {n d : Int} (hn : 0 < n) (hd : 0 < d) (bn : Bd 30 n) (bd : Bd 30 d) : Line (dv n d) := ⟨dv_pos hn hd, bdv (by omega) bn bd⟩
theorem last_at {xs : List Int} (h : 1 ≤ xs.length) : idxD (tl xs) (-1) = some (.int (at0 xs (xs.length - 1))) := by
  show L2.atI (xs.map PyData.int) (-1) = _
  have e : L2.ixN (xs.map PyData.int).length (-1) = some (xs.length - 1) := by
    unfold L2.ixN
    rw [if_neg (by decide), List.length_map, if_pos (by omega)]
    congr 1
    omega
  unfold L2.atI
  rw [e, Option.bind_some, List.getElem?_map, List.getElem?_eq_getElem (by omega), at0_eq (by omega)]
  rfl
theorem at_mem {xs : List Int} {j : Nat} (h : j < xs.length) : at0 xs j ∈ xs := by
  rw [at0_eq h]
  exact List.getElem_mem h
theorem l_line (k : Nat) (c : Cell) (R : Store) {xs : List Int} (hc : Dr c) (h : L40 xs) : ∃ L c', call tab (k + 2) "_law_line" [.loc 0, .d (tl xs)] (c :: R) = .ok (.d (fr L)) (c' :: R) ∧ Dr c' ∧ Line L := by
  rw [call_eq (m := m_L_line) rfl rfl]
  have h1 := h.pos
  have h2 := h.len
  obtain ⟨v, c1, e1, a1, b1, d1⟩ := tk k c R xs.length 6 hc (by omega) (by unfold Bd; omega) (by decide)
  have hi := idx_at (xs := xs) (i := v) (j := v.toNat) (by omega) (by omega)
  have hx := h.mem _ (at_mem (xs := xs) (j := v.toNat) (by omega))
  generalize at0 xs v.toNat = x at hi hx
  have hy := h.mem _ (at_mem (xs := xs) (j := xs.length - 1) (by omega))
  have hl := last_at h1
  generalize at0 xs (xs.length - 1) = y at hl hy
  obtain ⟨w, c2, e2, a2, b2, d2⟩ := tk k c1 R 5 3 d1 (by decide) (by unfold Bd; decide) (by decide)
  by_cases k1 : w < 2
  · refine ⟨(x : Rat), c2, ?_, d2, rat_pos (by omega), Bq.int (by unfold Bd; omega) (by decide)⟩
    rw [fr_int]
    simp [m_L_line, args0, e1, hi, e2, k1, lim, isFr]
  · by_cases k2 : w = 2
    · obtain ⟨u, c3, e3, a3, b3, d3⟩ := tk k c2 R 6 3 d2 (by decide) (by unfold Bd; decide) (by decide)
      have m1 : binD .Mult (.int x) (.int 7) = some (.int (x * 7)) := mulB (k := 20) (l := 3) (by unfold Bd; omega) (by unfold Bd; decide) (by decide) (by decide)
      have e4 := nl k (x * 7 + 1 + u) 7 (c3 :: R) 3 (by decide) (by unfold Bd; decide) (by decide)
      refine ⟨_, c3, ?_, d3, line_dv (n := x * 7 + 1 + u) (d := 7) (by omega) (by decide) (by unfold Bd; omega) (by unfold Bd; decide)⟩
      simp [m_L_line, args0, e1, hi, e2, k2, m1, e3, e4, isFr]
    · by_cases k3 : w = 3
      · have m1 : binD .Mult (.int 3) (.int x) = some (.int (3 * x)) := mulB (k := 2) (l := 20) (by unfold Bd; decide) (by unfold Bd; omega) (by decide) (by decide)
        obtain ⟨u, c3, e3, a3, b3, d3⟩ := tk k c2 R (3 * x) 22 d2 (by omega) (by unfold Bd; omega) (by decide)
        obtain ⟨z, c4, e4, a4, b4, d4⟩ := tk k c3 R 4 3 d3 (by decide) (by unfold Bd; decide) (by decide)
        have e5 := nl k (1 + u) (1 + z) (c4 :: R) 3 (by omega) (by unfold Bd; omega) (by decide)
        refine ⟨_, c4, ?_, d4, line_dv (n := 1 + u) (d := 1 + z) (by omega) (by omega) (by unfold Bd; omega) (by unfold Bd; omega)⟩
        simp [m_L_line, args0, e1, hi, e2, k3, m1, e3, e4, e5, isFr]
      · have m1 := mul2 (a := y) (k := 20) (by unfold Bd; omega) (by decide)
        obtain ⟨u, c3, e3, a3, b3, d3⟩ := tk k c2 R (2 * y + 1) 22 d2 (by omega) (by unfold Bd; omega) (by decide)
        obtain ⟨z, c4, e4, a4, b4, d4⟩ := tk k c3 R 3 3 d3 (by decide) (by unfold Bd; decide) (by decide)
        have e5 := nl k (1 + u) (1 + z) (c4 :: R) 3 (by omega) (by unfold Bd; omega) (by decide)
        refine ⟨_, c4, ?_, d4, line_dv (n := 1 + u) (d := 1 + z) (by omega) (by omega) (by unfold Bd; omega) (by unfold Bd; omega)⟩
        simp [m_L_line, args0, e1, hi, e2, k1, k2, k3, hl, m1, e3, e4, e5, isFr]
end K35
namespace K35
open PySem Rf Lb
def sz : D → Int
  | .tuple ys => ys.length
  | _ => 0
/-- what groups are -/
def isGroups : D → Bool
  | .tuple vs => decide (1 ≤ vs.length ∧ vs.length ≤ 10) && vs.all isLot && decide ((vs.map sz).sum ≤ 40)
  | _ => false
theorem isLot_tup {v : D} (h : isLot v = true) : ∃ ys, v = .tuple ys := by
  unfold isLot at h
  split at h
  · exact ⟨_, rfl⟩
  · cases h
theorem p_groups (k : Nat) (v : D) (S : Store) : call tab (k + 4) "are_groups" [.d v] S = .ok (.d (.bool (isGroups v))) S := by
  rw [call_eq (m := m_are_groups) rfl rfl]
  have g : tab.gl "MOST_GROUPS" = some (.d (.int 10)) := rfl
  cases v <;> first | (simp [m_are_groups, args0, isi_tuple, isFr, isGroups]; done) | skip
  rename_i vs
  by_cases h1 : 1 ≤ vs.length
  · by_cases h2 : vs.length ≤ 10
    · have h1' : (1 : Int) ≤ vs.length := by omega
      have h2' : (vs.length : Int) ≤ 10 := by omega
      have c1 := lc_map (g := id) (fun x : D => PyData.bool (isLot x)) (w := ⟨vs, []⟩) (base := [some (.d (.tuple vs)), none]) (t := .nm 1) (e := evE tab.gl (call tab (k + 3)) (.call "is_lot" (.cons (.var 1) .nil))) (S := S) rfl vs [] (by simp [lim]; omega) fun a _ => ⟨_, rfl, by simp [islot k a S]⟩
      simp only [List.map_id, List.nil_append] at c1
      by_cases h3 : vs.all isLot = true
      · have h3' := List.all_eq_true.mp h3
        have c2 := lc_map (g := id) (fun x : D => PyData.int (sz x)) (w := ⟨vs, []⟩) (base := [some (.d (.tuple vs)), none]) (t := .nm 1) (e := evE tab.gl (call tab (k + 3)) (.blt .len (.cons (.var 1) .nil))) (S := S) rfl vs [] (by simp [lim]; omega) fun a ha => ⟨_, rfl, by
          obtain ⟨ys, rfl⟩ := isLot_tup (h3' a ha)
          simp [sz]⟩
        simp only [List.map_id, List.nil_append] at c2
        simp [-List.all_eq_true, m_are_groups, args0, isi_tuple, g, h1', h2', x_lc, c1, noErr_okL, h3, c2, isFr, isGroups, h1, h2]
      · simp [-List.all_eq_true, m_are_groups, args0, isi_tuple, g, h1', h2', x_lc, c1, noErr_okL, h3, isFr, isGroups, h1, h2]
    · have h1' : (1 : Int) ≤ vs.length := by omega
      have h2' : ¬ (vs.length : Int) ≤ 10 := by omega
      simp [m_are_groups, args0, isi_tuple, isFr, isGroups, h1', h2', g, h2]
  · have h1' : ¬ (1 : Int) ≤ vs.length := by omega
    simp [m_are_groups, args0, isi_tuple, isFr, isGroups, h1', g, h1]
theorem p_chk_groups (k : Nat) (v : D) (S : Store) : call tab (k + 5) "check_groups" [.d v] S = if isGroups v then .ok (.d .none) S else .err mal S := by
  rw [call_eq (m := m_check_groups) rfl rfl]
  have e := p_groups k v S
  cases hv : isGroups v <;> simp [m_check_groups, args0, e, hv, mal]
end K35
namespace K35
open PySem Rf Lb
theorem bq_pv (w : Nat) {xs : List Int} {L : Rat} (h : L40 xs) (hL : Line L) : Bq 300 (pv w xs L) := by
  have h1 := h.pos
  have h2 := h.len
  have p40 := poor_40 (L := L) h
  have l1 := line_ne hL
  have n1 : ((xs.length : Int) : Rat) ≠ 0 := rat_ne (by omega)
  have bN : Bq 6 ((xs.length : Int) : Rat) := Bq.int (by unfold Bd; omega) (by decide)
  match w with
  | 0 => exact (bdv (k := 6) (by omega) (by unfold Bd; omega) (by unfold Bd; omega) : Bq 6 (dv (poor xs L).length xs.length)).mono (by decide)
  | 1 => exact ((bq_lack hL (poor_bd h) p40).div (by grind) (hL.bq.mul bN)).mono (by decide)
  | 2 => exact ((bq_sq hL (poor_bd h) p40).div (by grind) ((hL.bq.mul hL.bq).mul bN)).mono (by decide)
  | _ + 3 =>
    have pm : ∀ p ∈ enumI 0 (poor xs L), 0 ≤ p.1 ∧ p.1 ≤ 40 ∧ Bd 20 p.2 := fun p hp => by
      obtain ⟨q1, q2, q3⟩ := enumI_mem hp
      exact ⟨q1, by omega, poor_bd h p.2 q3⟩
    have bS : Bq 80 (sumQ (wl xs L)) := bq_wl hL ⟨by omega, by omega⟩ pm (by rw [enumI_len]; omega)
    have b2 : Bq 2 (2 : Rat) := ⟨by unfold Bd; decide, by unfold Bd; decide⟩
    have bM : Bq 13 (((((poor xs L).length : Int) + 1) * (xs.length : Int) : Int) : Rat) := Bq.int (Bd.mul (k := 7) (l := 6) (by unfold Bd; omega) (by unfold Bd; omega)) (by decide)
    have nz : ((((((poor xs L).length : Int) + 1) * (xs.length : Int) : Int)) : Rat) ≠ 0 := rat_ne (Int.mul_ne_zero (by omega) (by omega))
    exact ((bS.mul b2).div (by grind) (hL.bq.mul bM)).mono (by decide)
/-- groups, as the law draws them -/
structure Grp (gs : List (List Int)) : Prop where
  pos : 1 ≤ gs.length
  len : gs.length ≤ 4
  lot : ∀ g ∈ gs, Lot g 9 1000000
def ppl (gs : List (List Int)) : Int := (gs.map fun g => (g.length : Int)).sum
theorem Grp.l40 {gs : List (List Int)} (h : Grp gs) : ∀ g ∈ gs, L40 g := fun g hg => ⟨(h.lot g hg).pos, Nat.le_trans (h.lot g hg).len (by decide), (h.lot g hg).mem, (h.lot g hg).srt⟩
theorem ppl_le : ∀ {gs : List (List Int)}, (∀ g ∈ gs, Lot g 9 1000000) → 0 ≤ ppl gs ∧ ppl gs ≤ 9 * gs.length
  | [], _ => by simp [ppl]
  | g :: r, h => by
    have a := ppl_le (gs := r) fun x hx => h x (by simp [hx])
    have b := (h g (by simp)).len
    unfold ppl at a ⊢
    simp only [List.map_cons, List.sum_cons, List.length_cons]
    omega
theorem ppl_pos {gs : List (List Int)} (h : Grp gs) : 1 ≤ ppl gs ∧ ppl gs ≤ 36 := by
  have h1 := h.pos
  have h2 := h.len
  have a := ppl_le h.lot
  refine ⟨?_, by omega⟩
  cases gs with
  | nil => simp at h1
  | cons g r =>
    have b := (h.lot g (by simp)).pos
    have c := ppl_le (gs := r) fun x hx => h.lot x (by simp [hx])
    unfold ppl at c ⊢
    simp only [List.map_cons, List.sum_cons]
    omega
def tls (gs : List (List Int)) : D := .tuple (gs.map tl)
theorem isGroups_tls {gs : List (List Int)} (h : Grp gs) : isGroups (tls gs) = true := by
  have h1 := h.pos
  have h2 := h.len
  have h3 := ppl_pos h
  show (decide (1 ≤ (gs.map tl).length ∧ (gs.map tl).length ≤ 10) && (gs.map tl).all isLot && decide (((gs.map tl).map sz).sum ≤ 40)) = true
  have e : ((gs.map tl).map sz) = gs.map fun g => (g.length : Int) := by
    rw [List.map_map]
    refine List.map_congr_left fun g _ => ?_
    simp [tl, sz]
  rw [e]
  simp only [Bool.and_eq_true, decide_eq_true_eq, List.length_map]
  refine ⟨⟨⟨h1, by omega⟩, ?_⟩, by unfold ppl at h3; omega⟩
  rw [List.all_eq_true]
  intro v hv
  obtain ⟨g, hg, rfl⟩ := List.mem_map.mp hv
  exact isLot_of (h.lot g hg) (by decide) (by decide)
theorem w3 (w : Nat) (hw : w < 3) : cmpD .NotIn (.str (wd w)) pw3 = some false := by
  match w, hw with
  | 0, _ => decide +kernel
  | 1, _ => decide +kernel
  | 2, _ => decide +kernel
theorem p_parts (w : Nat) (hw : w < 3) (k : Nat) {gs : List (List Int)} {L : Rat} (S : Store) (h : Grp gs) (hL : Line L) : call tab (k + 8) "poverty_parts" [.d (tls gs), .d (fr L), .d (.str (wd w))] S = .ok (.d (.tuple (gs.map fun g => fr (pv w g L * dv g.length (ppl gs))))) S := by
  rw [call_eq (m := m_poverty_parts) rfl rfl]
  have h2 := h.len
  have hp := ppl_pos h
  have e1 := p_chk_groups (k + 2) (tls gs) S
  rw [isGroups_tls h, if_pos rfl] at e1
  have e2 := p_chk_line (k + 3) (fr L) S (fun a b z => by
    unfold fr at z
    have : b = (L.den : Int) := by
      injection z with z
      simp at z
      exact z.2.symm
    rw [this]
    exact hL.bq.2.mono (by decide))
  rw [isLine_fr hL.pos, if_pos rfl] at e2
  have e3 := p_chk_word (k + 6) (.str (wd w)) pw3 S true ⟨fun s z => w3 w hw, fun z => absurd rfl (z (wd w))⟩
  rw [if_pos rfl] at e3
  have g : tab.gl "LINE_WORDS" = some (.d pw3) := rfl
  have c1 := lc_map (g := tl) (fun g : List Int => PyData.int (g.length : Int)) (w := ⟨gs.map tl, []⟩) (base := [some (.d (.tuple (gs.map tl))), some (.d (fr L)), some (.d (.str (wd w))), none, none]) (t := .nm 4) (e := evE tab.gl (call tab (k + 7)) (.blt .len (.cons (.var 4) .nil))) (S := S) rfl gs [] (by simp [lim]; omega) fun x hx => ⟨_, rfl, by simp⟩
  have c2 := lc_map (g := tl) (fun g : List Int => fr (pv w g L * dv g.length (ppl gs))) (w := ⟨gs.map tl, []⟩) (base := [some (.d (.tuple (gs.map tl))), some (.d (fr L)), some (.d (.str (wd w))), some (.d (.int (ppl gs))), none]) (t := .nm 4) (e := evE tab.gl (call tab (k + 7)) (.call "times" (.cons (.call "poverty_of" (.cons (.var 4) (.cons (.var 1) (.cons (.var 2) .nil)))) (.cons (.call "lowest" (.cons (.blt .len (.cons (.var 4) .nil)) (.cons (.var 3) .nil))) .nil)))) (S := S) rfl gs [] (by simp [lim]; omega) fun x hx => ⟨_, rfl, by
    have hx4 := h.l40 x hx
    have bl : Bd 6 (x.length : Int) := by have := hx4.len; unfold Bd; omega
    have f1 := pov w k S hx4 hL
    have f2 := nf (k + 5) x.length (ppl gs) S 6 (by omega) (by unfold Bd; omega) (by decide)
    have f3 := p_times (k + 4) _ _ S _ _ (bq_pv w hx4 hL) (bdv (k := 6) (by omega) bl (by unfold Bd; omega) : Bq 6 (dv x.length (ppl gs))) (by decide)
    simp [f1, f2, f3]⟩
  rw [List.nil_append] at c1 c2
  have es : (gs.map fun g : List Int => (g.length : Int)).sum = ppl gs := rfl
  have et : tls gs = .tuple (gs.map tl) := rfl
  rw [et] at e1 ⊢
  simp [-List.map_map, m_poverty_parts, args0, e1, e2, e3, g, x_lc, c1, noErr_okL, es, c2, isFr]
end K35
namespace K35
open PySem Rf Lb
theorem sumQ_filter (p : Int → Bool) (f : Int → Rat) : ∀ xs : List Int, sumQ ((xs.filter p).map f) = sumQ (xs.map fun x => if p x then f x else 0)
  | [] => rfl
  | x :: r => by
    rw [List.map_cons, sumQ_cons, ← sumQ_filter p f r]
    cases hp : p x with
    | true => rw [List.filter_cons_of_pos hp, List.map_cons, sumQ_cons]; simp
    | false =>
      rw [List.filter_cons_of_neg (by simp [hp])]
      simp
      grind
theorem sumQ_app2 : ∀ a b : List Rat, sumQ (a ++ b) = sumQ a + sumQ b
  | [], b => by
    show sumQ b = 0 + sumQ b
    grind
  | x :: a, b => by
    rw [List.cons_append, sumQ_cons, sumQ_cons, sumQ_app2 a b]
    grind
theorem sumQ_ins (f : Int → Rat) (x : Int) : ∀ l : List Int, sumQ ((ins x l).map f) = f x + sumQ (l.map f)
  | [] => by rw [ins, List.map_cons, sumQ_cons]
  | y :: r => by
    unfold ins
    split
    · rw [List.map_cons, sumQ_cons]
    · rw [List.map_cons, sumQ_cons, sumQ_ins f x r, List.map_cons, sumQ_cons]
      grind
theorem sumQ_isort (f : Int → Rat) : ∀ l : List Int, sumQ ((isort l).map f) = sumQ (l.map f)
  | [] => rfl
  | x :: r => by
    unfold isort
    rw [sumQ_ins, sumQ_isort f r, List.map_cons, sumQ_cons]
theorem sumQ_div (f : Int → Rat) (c : Rat) (hc : c ≠ 0) : ∀ l : List Int, sumQ (l.map fun x => f x / c) = sumQ (l.map f) / c
  | [] => by
    show (0 : Rat) = 0 / c
    grind
  | x :: r => by
    rw [List.map_cons, sumQ_cons, sumQ_div f c hc r, List.map_cons, sumQ_cons]
    grind
/-- what one of a lot adds, by the first three words -/
def ps (w : Nat) (L : Rat) (x : Int) : Rat := match w with
  | 0 => 1
  | 1 => (L - (x : Rat)) / L
  | _ => (L - (x : Rat)) * (L - (x : Rat)) / (L * L)
def SP (w : Nat) (L : Rat) (xs : List Int) : Rat := sumQ (xs.map fun x : Int => if decide ((x : Rat) < L) then ps w L x else 0)
theorem sum_ones : ∀ xs : List Int, sumQ (xs.map fun _ => (1 : Rat)) = ((xs.length : Int) : Rat)
  | [] => rfl
  | x :: r => by
    rw [List.map_cons, sumQ_cons, sum_ones r, List.length_cons, show ((r.length + 1 : Nat) : Int) = (r.length : Int) + 1 by omega, Rat.intCast_add]
    have : ((1 : Int) : Rat) = 1 := rfl
    rw [this]
    grind
theorem pv_SP (w : Nat) (hw : w < 3) {xs : List Int} {L : Rat} (h : L40 xs) (hL : Line L) : pv w xs L = SP w L xs / ((xs.length : Int) : Rat) := by
  have h1 := h.pos
  have l1 := line_ne hL
  have n1 : ((xs.length : Int) : Rat) ≠ 0 := rat_ne (by omega)
  unfold SP
  rw [← sumQ_filter]
  match w, hw with
  | 0, _ =>
    show dv (poor xs L).length xs.length = sumQ ((poor xs L).map fun _ => (1 : Rat)) / _
    rw [dv_div, sum_ones]
  | 1, _ =>
    show sumQ (lack xs L) / (L * ((xs.length : Int) : Rat)) = sumQ ((poor xs L).map fun x : Int => (L - (x : Rat)) / L) / _
    rw [sumQ_div (fun x : Int => L - (x : Rat)) L l1]
    unfold lack
    grind
  | 2, _ =>
    show sumQ (sqs xs L) / (L * L * ((xs.length : Int) : Rat)) = sumQ ((poor xs L).map fun x : Int => (L - (x : Rat)) * (L - (x : Rat)) / (L * L)) / _
    rw [sumQ_div (fun x : Int => (L - (x : Rat)) * (L - (x : Rat))) (L * L) (by grind)]
    unfold sqs
    grind
theorem SP_app (w : Nat) (L : Rat) (a b : List Int) : SP w L (a ++ b) = SP w L a + SP w L b := by
  unfold SP
  rw [List.map_append, sumQ_app2]
theorem SP_isort (w : Nat) (L : Rat) (a : List Int) : SP w L (isort a) = SP w L a := sumQ_isort _ a
end K35
namespace K35
open PySem Rf Lb
def allOf (gs : List (List Int)) : List Int := gs.flatten
theorem SP_all (w : Nat) (L : Rat) : ∀ gs : List (List Int), SP w L (allOf gs) = sumQ (gs.map (SP w L))
  | [] => rfl
  | g :: r => by
    unfold allOf
    rw [List.flatten_cons, SP_app, List.map_cons, sumQ_cons]
    have := SP_all w L r
    unfold allOf at this
    rw [this]
theorem all_len : ∀ gs : List (List Int), ((allOf gs).length : Int) = ppl gs
  | [] => rfl
  | g :: r => by
    have := all_len r
    unfold allOf ppl at *
    simp only [List.flatten_cons, List.length_append, List.map_cons, List.sum_cons]
    omega
theorem all_L40 {gs : List (List Int)} (h : Grp gs) : L40 (isort (allOf gs)) := by
  have hp := ppl_pos h
  have hl := all_len gs
  refine ⟨by rw [isort_len]; omega, by rw [isort_len]; omega, fun x hx => ?_, isort_sorted _⟩
  have hx := isort_mem.mp hx
  unfold allOf at hx
  obtain ⟨g, hg, hxg⟩ := List.mem_flatten.mp hx
  exact (h.lot g hg).mem x hxg
theorem told_sum (w : Nat) (hw : w < 3) {gs : List (List Int)} {L : Rat} (h : Grp gs) (hL : Line L) : sumQ (gs.map fun g => pv w g L * dv g.length (ppl gs)) = pv w (isort (allOf gs)) L := by
  have hp := ppl_pos h
  have P0 : ((ppl gs : Int) : Rat) ≠ 0 := rat_ne (by omega)
  rw [pv_SP w hw (all_L40 h) hL, SP_isort, isort_len, all_len, SP_all]
  have key : ∀ ks : List (List Int), (∀ g ∈ ks, L40 g) → sumQ (ks.map fun g => pv w g L * dv g.length (ppl gs)) = sumQ (ks.map (SP w L)) / ((ppl gs : Int) : Rat) := by
    intro ks
    induction ks with
    | nil =>
      intro _
      show (0 : Rat) = 0 / ((ppl gs : Int) : Rat)
      grind
    | cons g r ih =>
      intro hk
      have hg := hk g (by simp)
      have n1 : ((g.length : Int) : Rat) ≠ 0 := rat_ne (by have := hg.pos; omega)
      rw [List.map_cons, sumQ_cons, ih fun x hx => hk x (by simp [hx]), List.map_cons, sumQ_cons, pv_SP w hw hg hL, dv_div]
      generalize sumQ (r.map (SP w L)) = a
      generalize SP w L g = b
      generalize ((g.length : Int) : Rat) = c at *
      generalize ((ppl gs : Int) : Rat) = d at *
      grind
  exact key gs h.l40
end K35
namespace K35
open PySem Rf Lb
theorem bin_cat {a b : List D} (h : a.length + b.length ≤ lim) : binD .Add (.tuple a) (.tuple b) = some (.tuple (a ++ b)) := by simp [binD, h]
theorem l_bad (k : Nat) (c : Cell) (R : Store) {xs : List Int} (hc : Dr c) (h : L40 xs) : ∃ v c', call tab (k + 2) "_law_bad_lot" [.loc 0, .d (tl xs)] (c :: R) = .ok (.d v) (c' :: R) ∧ Dr c' ∧ isLot v = false := by
  rw [call_eq (m := m_L_bad_lot) rfl rfl]
  obtain ⟨v, c1, e1, a1, b1, d1⟩ := tk k c R 13 4 hc (by decide) (by unfold Bd; decide) (by decide)
  have h1 := h.pos
  have h2 := h.len
  have hl : (xs.map PyData.int).length = xs.length := by simp
  have c1' := bin_cat (a := [.int 0]) (b := xs.map .int) (by simp [lim]; omega)
  have c2 := bin_cat (a := xs.map .int) (b := [.int 1000001]) (by simp [lim]; omega)
  have c3 := bin_cat (a := xs.map .int) (b := [.bool true]) (by simp [lim]; omega)
  have c4 := bin_cat (a := [.int (-1)]) (b := xs.map .int) (by simp [lim]; omega)
  have c5 := bin_cat (a := (xs.map PyData.int).take (xs.length - 1)) (b := [.none]) (by simp [lim]; omega)
  have s5 : slcD (.tuple (xs.map .int)) none (some (-1)) = some (.tuple ((xs.map PyData.int).take (xs.length - 1))) := by
    show some (PyData.tuple (cutD (xs.map .int) none (some (-1)))) = _
    rw [cut_last (by simp; omega), hl]
  have m5 : binD .Mult (.tuple [.int 1]) (.int 41) = some (.tuple (List.replicate 41 [.int 1]).flatten) := by rfl
  obtain ⟨w, e2, e3⟩ : ∃ w, idxD (.list [.none, .tuple [], .int 5, .list (xs.map .int), .tuple ([.int 0] ++ xs.map .int), .tuple (xs.map .int ++ [.int 1000001]), .tuple (xs.map .int ++ [.bool true]), .tuple [.tuple (xs.map .int)], .tuple [.str "1"], .tuple ((xs.map PyData.int).take (xs.length - 1) ++ [.none]), .tuple (List.replicate 41 [.int 1]).flatten, .tuple [.int 2, .int 1], .tuple ([.int (-1)] ++ xs.map .int)]) v = some w ∧ isLot w = false := by
    have : v = 0 ∨ v = 1 ∨ v = 2 ∨ v = 3 ∨ v = 4 ∨ v = 5 ∨ v = 6 ∨ v = 7 ∨ v = 8 ∨ v = 9 ∨ v = 10 ∨ v = 11 ∨ v = 12 := by omega
    rcases this with rfl | rfl | rfl | rfl | rfl | rfl | rfl | rfl | rfl | rfl | rfl | rfl | rfl <;> refine ⟨_, rfl, ?_⟩ <;> simp [isLot, income, asc, intL]
  refine ⟨w, c1, ?_, d1, e3⟩
  simp at e2
  simp [m_L_bad_lot, args0, tl, c1', c2, c3, c4, c5, s5, m5, lim, isFr, e1, e2]
theorem chkN (k : Nat) {v : D} (S : Store) (h : isLot v = false) : call tab (k + 4) "check_lot" [.d v] S = .err mal S := by
  rw [chk, h]
  rfl
theorem mal_lot (k : Nat) {v l w : D} (S : Store) (h : isLot v = false) : call tab (k + 8) "poverty" [.d v, .d l, .d w] S = .err mal S := by
  rw [call_eq (m := m_poverty) rfl rfl]
  simp [m_poverty, args0, chkN (k + 3) S h]
theorem mal_line (k : Nat) {xs : List Int} {l w : D} (S : Store) (h : L40 xs) (hB : ∀ a b, l = .tuple [.int a, .int b] → Bd 100000 b) (hl : isLine l = false) : call tab (k + 8) "poverty" [.d (tl xs), .d l, .d w] S = .err mal S := by
  rw [call_eq (m := m_poverty) rfl rfl]
  have e := p_chk_line (k + 3) l S hB
  rw [hl, if_neg (by decide)] at e
  simp [m_poverty, args0, chkL (k + 3) S h, e]
theorem l_mal0 (k : Nat) {v l w : D} (S : Store) (h : call tab (k + 8) "poverty" [.d v, .d l, .d w] S = .err mal S) : call tab (k + 9) "_law_malformed" [.d (.int 0), .d v, .d l, .d w] S = .ok (.d (.bool true)) S := by
  rw [call_eq (m := m_L_malformed) rfl rfl]
  have x1 : tab.xm "Malformed" "Malformed" = some true := rfl
  have x2 : evH tab.xi mal (.and (.is "Fault") (.is "ValueError")) = some (.bool true) := rfl
  simp [m_L_malformed, args0, s_tryR, h, x1, x2, mal] at *
theorem l_mal1 (k : Nat) {v l w : D} (S : Store) (h : call tab (k + 8) "poverty_parts" [.d v, .d l, .d w] S = .err mal S) : call tab (k + 9) "_law_malformed" [.d (.int 1), .d v, .d l, .d w] S = .ok (.d (.bool true)) S := by
  rw [call_eq (m := m_L_malformed) rfl rfl]
  have x1 : tab.xm "Malformed" "Malformed" = some true := rfl
  have x2 : evH tab.xi mal (.and (.is "Fault") (.is "ValueError")) = some (.bool true) := rfl
  simp [m_L_malformed, args0, s_tryR, h, x1, x2, mal] at *
end K35
namespace K35
open PySem Rf Lb
theorem chk_fr (k : Nat) {L : Rat} (S : Store) (hL : Line L) : call tab (k + 4) "check_line" [.d (fr L)] S = .ok (.d .none) S := by
  have e := p_chk_line k (fr L) S (fun a b z => by
    unfold fr at z
    have : b = (L.den : Int) := by
      injection z with z
      simp at z
      exact z.2.symm
    rw [this]
    exact hL.bq.2.mono (by decide))
  rw [isLine_fr hL.pos, if_pos rfl] at e
  exact e
theorem mal_word (k : Nat) {xs : List Int} {L : Rat} {w : D} (S : Store) (h : L40 xs) (hL : Line L) (hw : (∀ s, w = .str s → cmpD .NotIn w pw4 = some true)) : call tab (k + 8) "poverty" [.d (tl xs), .d (fr L), .d w] S = .err mal S := by
  rw [call_eq (m := m_poverty) rfl rfl]
  have e3 := p_chk_word (k + 6) w pw4 S false ⟨hw, fun _ => rfl⟩
  rw [if_neg (by decide)] at e3
  have g : tab.gl "POOR_WORDS" = some (.d pw4) := rfl
  simp [m_poverty, args0, chkL (k + 3) S h, chk_fr (k + 3) S hL, e3, g]
theorem mal_groups (k : Nat) {v l w : D} (S : Store) (h : isGroups v = false) : call tab (k + 8) "poverty_parts" [.d v, .d l, .d w] S = .err mal S := by
  rw [call_eq (m := m_poverty_parts) rfl rfl]
  have e := p_chk_groups (k + 2) v S
  rw [h, if_neg (by decide)] at e
  simp [m_poverty_parts, args0, e]
theorem chkG (k : Nat) {gs : List (List Int)} (S : Store) (h : Grp gs) : call tab (k + 5) "check_groups" [.d (tls gs)] S = .ok (.d .none) S := by
  have e := p_chk_groups k (tls gs) S
  rw [isGroups_tls h, if_pos rfl] at e
  exact e
theorem malG_line (k : Nat) {gs : List (List Int)} {l w : D} (S : Store) (h : Grp gs) (hB : ∀ a b, l = .tuple [.int a, .int b] → Bd 100000 b) (hl : isLine l = false) : call tab (k + 8) "poverty_parts" [.d (tls gs), .d l, .d w] S = .err mal S := by
  rw [call_eq (m := m_poverty_parts) rfl rfl]
  have e := p_chk_line (k + 3) l S hB
  rw [hl, if_neg (by decide)] at e
  simp [m_poverty_parts, args0, chkG (k + 2) S h, e]
theorem malG_word (k : Nat) {gs : List (List Int)} {L : Rat} {w : D} (S : Store) (h : Grp gs) (hL : Line L) (hw : (∀ s, w = .str s → cmpD .NotIn w pw3 = some true)) : call tab (k + 8) "poverty_parts" [.d (tls gs), .d (fr L), .d w] S = .err mal S := by
  rw [call_eq (m := m_poverty_parts) rfl rfl]
  have e3 := p_chk_word (k + 6) w pw3 S false ⟨hw, fun _ => rfl⟩
  rw [if_neg (by decide)] at e3
  have g : tab.gl "LINE_WORDS" = some (.d pw3) := rfl
  simp [m_poverty_parts, args0, chkG (k + 2) S h, chk_fr (k + 3) S hL, e3, g]
end K35
namespace K35
open PySem Rf Lb
/-- the four words, one after the other -/
def b4 : MSs := (.cons (.ife (.cmp .NotEq (.call "poverty" (.cons (.var 2) (.cons (.var 4) (.cons (.var 5) .nil)))) (.call "_law_due" (.cons (.var 2) (.cons (.var 4) (.cons (.var 5) .nil))))) (.cons (.ret (.cbl false)) .nil) .nil) .nil)
theorem loop4 {xs : List Int} {L : Rat} (c : Cell) (h : L40 xs) (hL : Line L) (r0 r3 r5 r6 r7 r8 r9 r10 r11 r12 r13 r14 r15 r16 : Option Val) :
    ∃ u5, forLoop ⟨[.str "count", .str "gap", .str "square", .str "sen"], []⟩ (.nm 5) 1 (evSs tab.gl (call tab 19) tab.fr tab.xm tab.xi b4) [.str "count", .str "gap", .str "square", .str "sen"] [r0, some (.loc 0), some (.d (tl xs)), r3, some (.d (fr L)), r5, r6, r7, r8, r9, r10, r11, r12, r13, r14, r15, r16] [c] =
      .next (gcE 1 (gcE 1 (gcE 1 (gcE 1 [r0, some (.loc 0), some (.d (tl xs)), r3, some (.d (fr L)), u5, r6, r7, r8, r9, r10, r11, r12, r13, r14, r15, r16])))) [c] := by
  have p0 := p_poverty 0 11 [c] h hL
  have p1 := p_poverty 1 11 [c] h hL
  have p2 := p_poverty 2 11 [c] h hL
  have p3 := p_poverty 3 11 [c] h hL
  have d0 := due 0 15 [c] h hL
  have d1 := due 1 15 [c] h hL
  have d2 := due 2 15 [c] h hL
  have d3 := due 3 15 [c] h hL
  simp only [wd] at p0 p1 p2 p3 d0 d1 d2 d3
  refine ⟨some (.d (.str "sen")), ?_⟩
  simp [forLoop, stays, b4, p0, p1, p2, p3, d0, d1, d2, d3]
end K35
namespace K35
open PySem Rf Lb
/-- one turn -/
def b3 : MSs := (.cons (.asg 4 (.call "_law_line" (.cons (.var 1) (.cons (.var 2) .nil)))) (.cons (.for_ (.nm 5) (.over (.lst (.cons (.cstr "count") (.cons (.cstr "gap") (.cons (.cstr "square") (.cons (.cstr "sen") .nil)))))) b4) .nil))
theorem turns {xs : List Int} (ns : List Int) (c : Cell) (hc : Dr c) (h : L40 xs) :
    ∃ r' S', forLoop ⟨upto 0 3, []⟩ (.nm 3) 1 (evSs tab.gl (call tab 19) tab.fr tab.xm tab.xi b3) (upto 0 3) [some (.scr ns), some (.loc 0), some (.d (tl xs)), none, none, none, none, none, none, none, none, none, none, none, none, none, none] [c] = .next r' S' ∧
      ∃ c' u3 u4 u5, S' = [c'] ∧ Dr c' ∧ r' = [some (.scr ns), some (.loc 0), some (.d (tl xs)), u3, u4, u5, none, none, none, none, none, none, none, none, none, none, none] := by
  refine for_run (fun j r S => ∃ c' u3 u4 u5, S = [c'] ∧ Dr c' ∧ r = [some (.scr ns), some (.loc 0), some (.d (tl xs)), u3, u4, u5, none, none, none, none, none, none, none, none, none, none, none]) (fun _ _ _ _ => rfl) ⟨c, none, none, none, rfl, hc, rfl⟩ (fun r S q => q) ?_
  rintro j x r S hx ⟨c1, u3, u4, u5, rfl, d1, rfl⟩
  obtain ⟨L, c2, e1, d2, hL⟩ := l_line 17 c1 [] d1 h
  obtain ⟨u5', e2⟩ := loop4 c2 h hL (some (.scr ns)) (some (.d x)) u5 none none none none none none none none none none none
  unfold b4 at e2
  refine ⟨_, rfl, _, _, .inl (by simp [b3, b4, e1, s_for, lim, e2]; exact ⟨rfl, rfl⟩), c2, _, _, _, rfl, d2, rfl⟩
end K35
namespace K35
open PySem Rf Lb
/-- the groups are drawn -/
theorem draw_groups (c : Cell) (base : Rf.Env) (hb : base[1]? = some (some (.loc 0))) (h8 : 8 ≤ base.length) (n : Nat) (h1 : 1 ≤ n) (hn : n ≤ 4) (hc : Dr c) :
    ∃ acc S', lcLoop ⟨upto 0 n, []⟩ (base.set 7 none) (.nm 7) none (evE tab.gl (call tab 19) (.call "_law_lot" (.cons (.var 1) (.cons (.cint 9) (.cons (.cint 1000000) .nil))))) (upto 0 n) [c] [] = .ok acc S' ∧ ∃ gs c', acc = gs.map tl ∧ S' = [c'] ∧ Dr c' ∧ Grp gs := by
  refine lc_run (fun i acc S' => ∃ gs c', acc = gs.map tl ∧ S' = [c'] ∧ Dr c' ∧ gs.length = i ∧ ∀ g ∈ gs, Lot g 9 1000000) (fun _ _ _ _ => rfl) ⟨[], c, rfl, rfl, hc, rfl, by simp⟩ (by rw [upto_len]; simp [lim]; omega) (fun acc S' q => ?_) ?_
  · obtain ⟨gs, c', e1, e2, e3, e4, e5⟩ := q
    rw [upto_len] at e4
    exact ⟨gs, c', e1, e2, e3, by omega, by omega, e5⟩
  · rintro j x acc S hx ⟨gs, c1, rfl, rfl, d1, hl, hg⟩
    obtain ⟨xs, c2, e1, d2, hx2⟩ := dlot 17 c1 [] 9 1000000 d1 (by decide) (by decide) (by decide) (by decide)
    have v1 : ((base.set 7 none).set 7 (some (.d x)))[1]? = some (some (.loc 0)) := by
      rw [List.getElem?_set_ne (by decide), List.getElem?_set_ne (by decide)]
      exact hb
    refine ⟨_, rfl, tl xs, [c2], by simp [hb]; exact e1, gs ++ [xs], c2, by simp, rfl, d2, by simp [hl], fun g hg2 => ?_⟩
    rcases List.mem_append.mp hg2 with q | q
    · exact hg g q
    · have : g = xs := by simpa using q
      rw [this]
      exact hx2
end K35
namespace K35
open PySem Rf Lb
/-- the parts, as fractions -/
def toldQ (w : Nat) (gs : List (List Int)) (L : Rat) : List Rat := gs.map fun g => pv w g L * dv g.length (ppl gs)
theorem l_told_sum (w : Nat) (hw : w < 3) {gs : List (List Int)} {L : Rat} (S : Store) (h : Grp gs) (hL : Line L) : call tab 19 "_law_sum" [.d (.tuple ((toldQ w gs L).map fr))] S = .ok (.d (fr (pv w (isort (allOf gs)) L))) S := by
  have hp := ppl_pos h
  have ha : ∀ q ∈ toldQ w gs L, Bq 306 q := fun q hq => by
    obtain ⟨g, hg, rfl⟩ := List.mem_map.mp hq
    have h4 := h.l40 g hg
    exact (bq_pv w h4 hL).mul (bdv (k := 6) (by omega) (by have := h4.len; unfold Bd; omega) (by unfold Bd; omega) : Bq 6 (dv g.length (ppl gs)))
  have hB : ∀ qs : List Rat, (∀ q ∈ qs, Bq 306 q) → Bq (307 * qs.length + 1) (sumQ qs) := by
    intro qs
    induction qs with
    | nil => intro _; exact Bq.zero
    | cons q r ih =>
      intro hq
      rw [sumQ_cons]
      exact ((hq q (by simp)).add (ih fun x hx => hq x (by simp [hx]))).mono (by rw [List.length_cons]; omega)
  have e := l_sum 16 (toldQ w gs L) S 306 1300 _ (.inr rfl) ha (fun i hi => (hB _ fun q hq => ha q (List.mem_of_mem_take hq)).mono (by
    have := h.len
    have : (toldQ w gs L).length = gs.length := by unfold toldQ; simp
    simp
    omega)) (by decide)
  rw [e]
  unfold toldQ
  rw [told_sum w hw h hL]
end K35
namespace K35
open PySem Rf Lb
theorem cat_list {a b : List D} (h : a.length + b.length ≤ lim) : binD .Add (.list a) (.list b) = some (.list (a ++ b)) := by simp [binD, h]
def be : MSs := (.cons (.asg 12 (.bin .Add (.var 12) (.blt .list (.cons (.var 9) .nil)))) .nil)
theorem take_all_len (gs : List (List Int)) (h : ∀ g ∈ gs, Lot g 9 1000000) : (allOf gs).length ≤ 9 * gs.length := by
  have a := all_len gs
  have b := ppl_le h
  omega
/-- everyone, part after part -/
theorem every (ns : List Int) (xs : List Int) (L : Rat) (x5 : Str) (gs : List (List Int)) (h : Grp gs) (c : Cell) (r3 r7 u9 : Option Val) (p t d : D) :
    ∃ r' S', forLoop ⟨gs.map tl, []⟩ (.nm 9) 1 (evSs tab.gl (call tab 19) tab.fr tab.xm tab.xi be) (gs.map tl) [some (.scr ns), some (.loc 0), some (.d (tl xs)), r3, some (.d (fr L)), some (.d (.str x5)), some (.d (tls gs)), r7, some (.d p), u9, some (.d t), some (.d d), some (.d (.list [])), none, none, none, none] [c] = .next r' S' ∧
      S' = [c] ∧ ∃ r3 r7 u9, r' = [some (.scr ns), some (.loc 0), some (.d (tl xs)), r3, some (.d (fr L)), some (.d (.str x5)), some (.d (tls gs)), r7, some (.d p), u9, some (.d t), some (.d d), some (.d (.list ((allOf gs).map .int))), none, none, none, none] := by
  have hl := h.len
  refine for_run (fun i r S => S = [c] ∧ ∃ r3 r7 u9, r = [some (.scr ns), some (.loc 0), some (.d (tl xs)), r3, some (.d (fr L)), some (.d (.str x5)), some (.d (tls gs)), r7, some (.d p), u9, some (.d t), some (.d d), some (.d (.list ((allOf (gs.take i)).map .int))), none, none, none, none]) (fun _ _ _ _ => rfl) ⟨rfl, r3, r7, u9, rfl⟩ (fun r S q => by
    rw [List.length_map, List.take_length] at q
    exact q) ?_
  rintro i x r S hx ⟨rfl, r3, r7, u9, rfl⟩
  rw [List.getElem?_map, Option.map_eq_some_iff] at hx
  obtain ⟨g, hg, rfl⟩ := hx
  have hi := (List.getElem?_eq_some_iff.mp hg).1
  have hgm := List.mem_of_getElem? hg
  have tk1 : gs.take (i + 1) = gs.take i ++ [g] := by rw [List.take_add_one, hg]; rfl
  have e1 := take_all_len (gs.take i) fun y hy => h.lot y (List.mem_of_mem_take hy)
  have e2 := (h.lot g hgm).len
  have cc := cat_list (a := (allOf (gs.take i)).map PyData.int) (b := g.map .int) (by simp at e1 ⊢; unfold lim; omega)
  have ea : allOf (gs.take (i + 1)) = allOf (gs.take i) ++ g := by rw [tk1]; unfold allOf; simp
  refine ⟨_, rfl, _, _, .inl (by simp [be, cc]; exact ⟨rfl, rfl⟩), rfl, _, _, _, by rw [ea, List.map_append]; rfl⟩
end K35
namespace K35
open PySem Rf Lb
/-- one of the three words -/
def bw : MSs := (.cons (.asg 10 (.call "poverty_parts" (.cons (.var 6) (.cons (.var 4) (.cons (.var 5) .nil))))) (.cons 
(.asg 11 (.blt .tuple (.cons (.lc [9] (.nm 9) (.over (.var 6)) .none (.call "_law_times" (.cons (.call "_law_due" (.cons (.var 9) (.cons (.var 4) (.cons (.var 5) .nil)))) (.cons (.call "_law_fraction" (.cons (.blt .len (.cons (.var 9) .nil)) (.cons (.var 8) .nil))) .nil)))) .nil))) (.cons 
(.ife (.cmp .NotEq (.var 10) (.var 11)) (.cons (.ret (.cbl false)) .nil) .nil) (.cons 
(.asg 12 (.lst .nil)) (.cons 
(.for_ (.nm 9) (.over (.var 6)) be) (.cons 
(.ife (.cmp .NotEq (.call "_law_sum" (.cons (.var 10) .nil)) (.call "_law_due" (.cons (.blt .tuple (.cons (.blt .sorted (.cons (.var 12) .nil)) .nil)) (.cons (.var 4) (.cons (.var 5) .nil))))) (.cons 
(.ret (.cbl false)) .nil) .nil) .nil))))))
theorem flats_fr {n : Nat} : ∀ qs : List Rat, flats (n + 1) (qs.map fr) = true
  | [] => by simp [flats]
  | q :: r => by rw [List.map_cons, flats, flat_fr, flats_fr r]; rfl
theorem word1 (w : Nat) (hw : w < 3) (ns : List Int) (xs : List Int) {L : Rat} (hL : Line L) {gs : List (List Int)} (h : Grp gs) (c : Cell) (r3 r7 u9 u10 u11 u12 : Option Val) :
    ∃ r3' r7' u9' u10' u11' u12', evSs tab.gl (call tab 19) tab.fr tab.xm tab.xi bw [some (.scr ns), some (.loc 0), some (.d (tl xs)), r3, some (.d (fr L)), some (.d (.str (wd w))), some (.d (tls gs)), r7, some (.d (.int (ppl gs))), u9, u10, u11, u12, none, none, none, none] [c] =
      .next [some (.scr ns), some (.loc 0), some (.d (tl xs)), r3', some (.d (fr L)), some (.d (.str (wd w))), some (.d (tls gs)), r7', some (.d (.int (ppl gs))), u9', u10', u11', u12', none, none, none, none] [c] := by
  have e1 := p_parts w hw 11 [c] h hL
  have et : (gs.map fun g => fr (pv w g L * dv g.length (ppl gs))) = (toldQ w gs L).map fr := by unfold toldQ; rw [List.map_map]; rfl
  rw [et] at e1
  have hp := ppl_pos h
  have c1 := lc_map (g := tl) (fun g : List Int => fr (pv w g L * dv g.length (ppl gs))) (w := ⟨gs.map tl, []⟩) (base := [some (.scr ns), some (.loc 0), some (.d (tl xs)), r3, some (.d (fr L)), some (.d (.str (wd w))), some (.d (tls gs)), r7, some (.d (.int (ppl gs))), none, some (.d (.tuple ((toldQ w gs L).map fr))), u11, u12, none, none, none, none]) (t := .nm 9) (e := evE tab.gl (call tab 19) (.call "_law_times" (.cons (.call "_law_due" (.cons (.var 9) (.cons (.var 4) (.cons (.var 5) .nil)))) (.cons (.call "_law_fraction" (.cons (.blt .len (.cons (.var 9) .nil)) (.cons (.var 8) .nil))) .nil)))) (S := [c]) rfl gs [] (by have := h.len; simp [lim]; omega) fun x hx => ⟨_, rfl, by
    have hx4 := h.l40 x hx
    have bl : Bd 6 (x.length : Int) := by have := hx4.len; unfold Bd; omega
    have f1 := due w 15 [c] hx4 hL
    have f2 := nl 18 x.length (ppl gs) [c] 6 (by omega) (by unfold Bd; omega) (by decide)
    have f3 := l_times 17 _ _ [c] _ _ (bq_pv w hx4 hL) (bdv (k := 6) (by omega) bl (by unfold Bd; omega) : Bq 6 (dv x.length (ppl gs))) (by decide)
    simp [f1, f2, f3]⟩
  rw [List.nil_append, et] at c1
  have ne1 : cmpD .NotEq (.tuple ((toldQ w gs L).map fr)) (.tuple ((toldQ w gs L).map fr)) = some false := ne_self (n := 2) (by rw [flat]; exact flats_fr _) (by decide)
  obtain ⟨r', S', e2, rfl, r3', r7', u9', rfl⟩ := every ns xs L (wd w) gs h c r3 r7 u9 (.int (ppl gs)) (.tuple ((toldQ w gs L).map fr)) (.tuple ((toldQ w gs L).map fr))
  have e3 := l_told_sum w hw [c] h hL
  have e4 := due w 15 [c] (all_L40 h) hL
  have eg : seqD [c] (.d (tls gs)) = some (gs.map tl) := rfl
  have es : .tuple ((isort (allOf gs)).map PyData.int) = tl (isort (allOf gs)) := rfl
  refine ⟨r3', r7', u9', some (.d (.tuple ((toldQ w gs L).map fr))), some (.d (.tuple ((toldQ w gs L).map fr))), some (.d (.list ((allOf gs).map .int))), ?_⟩
  simp [-List.map_map, bw, e1, x_lc, eg, c1, noErr_okL, ne1, lim, s_for, e2, e3, es, e4]
end K35
namespace K35
open PySem Rf Lb
/-! values that are none -/
theorem pick_line {v : Int} (h0 : 0 ≤ v) (h1 : v < 9) : ∃ b, idxD (.list [.none, .tuple [.int 0, .int 1], .tuple [.int (-1), .int 2], .tuple [.int 2, .int 4], .int 3, .tuple [.int 1, .int 0], .tuple [.bool true, .int 1], .tuple [.int 1, .int 1, .int 1], .list [.int 1, .int 1]]) v = some b ∧ isLine b = false ∧ ∀ a c, b = .tuple [.int a, .int c] → Bd 100000 c := by
  have : v = 0 ∨ v = 1 ∨ v = 2 ∨ v = 3 ∨ v = 4 ∨ v = 5 ∨ v = 6 ∨ v = 7 ∨ v = 8 := by omega
  have bd : ∀ x : Int, x.natAbs < 8 → Bd 100000 x := fun x hx => Bd.mono (k := 3) (by unfold Bd; omega) (by decide)
  rcases this with rfl | rfl | rfl | rfl | rfl | rfl | rfl | rfl | rfl <;> refine ⟨_, rfl, by first | rfl | decide +kernel, ?_⟩ <;> intro a c e <;> simp at e <;> (try exact bd _ (by omega))
theorem pick_word {v : Int} (h0 : 0 ≤ v) (h1 : v < 6) : ∃ b, idxD (.list [.none, .str "", .str "Count", .str "poor", .int 0, .tuple [.str "gap"]]) v = some b ∧ (∀ s, b = .str s → cmpD .NotIn b pw4 = some true) ∧ ∀ s, b = .str s → cmpD .NotIn b pw3 = some true := by
  have : v = 0 ∨ v = 1 ∨ v = 2 ∨ v = 3 ∨ v = 4 ∨ v = 5 := by omega
  rcases this with rfl | rfl | rfl | rfl | rfl | rfl <;> refine ⟨_, rfl, ?_, ?_⟩ <;> first | (intro s e; decide +kernel) | (intro s e; cases e)
theorem rep_sum (n : Nat) (x : Int) : (List.replicate n x).sum = n * x := by
  induction n with
  | zero => simp
  | succ n ih => rw [List.replicate_succ, List.sum_cons, ih]; rw [Int.natCast_add, Int.add_mul]; omega
theorem pick_groups {v : Int} (h0 : 0 ≤ v) (h1 : v < 8) {n : D} (hn : isLot n = false) {xs : List Int} (hx : L40 xs) : ∃ b, idxD (.list [.none, .tuple [], .tuple [n], tl xs, .list [tl xs], .tuple (List.replicate 11 [tl (xs.take 1)]).flatten, .tuple [.tuple (List.replicate 21 [.int 1]).flatten, .tuple (List.replicate 20 [.int 1]).flatten], .tuple [tl xs, n]]) v = some b ∧ isGroups b = false := by
  have : v = 0 ∨ v = 1 ∨ v = 2 ∨ v = 3 ∨ v = 4 ∨ v = 5 ∨ v = 6 ∨ v = 7 := by omega
  rcases this with rfl | rfl | rfl | rfl | rfl | rfl | rfl | rfl
  · exact ⟨_, rfl, rfl⟩
  · exact ⟨_, rfl, rfl⟩
  · exact ⟨_, rfl, by simp [isGroups, hn]⟩
  · refine ⟨_, rfl, ?_⟩
    obtain ⟨x, r, rfl⟩ : ∃ x r, xs = x :: r := by
      have := hx.pos
      cases xs with
      | nil => simp at this
      | cons x r => exact ⟨x, r, rfl⟩
    simp [isGroups, tl, isLot]
  · exact ⟨_, rfl, rfl⟩
  · exact ⟨_, rfl, by simp [isGroups]⟩
  · exact ⟨_, rfl, by simp [isGroups, sz]⟩
  · exact ⟨_, rfl, by simp [isGroups, hn]⟩
/-- the three words, one after the other -/
theorem words3 (ns : List Int) (xs : List Int) {L : Rat} (hL : Line L) {gs : List (List Int)} (h : Grp gs) (c : Cell) (r3 r5 r7 u9 u10 u11 u12 : Option Val) :
    ∃ r3' r5' r7' u9' u10' u11' u12', forLoop ⟨[.str "count", .str "gap", .str "square"], []⟩ (.nm 5) 1 (evSs tab.gl (call tab 19) tab.fr tab.xm tab.xi bw) [.str "count", .str "gap", .str "square"] [some (.scr ns), some (.loc 0), some (.d (tl xs)), r3, some (.d (fr L)), r5, some (.d (tls gs)), r7, some (.d (.int (ppl gs))), u9, u10, u11, u12, none, none, none, none] [c] =
      .next [some (.scr ns), some (.loc 0), some (.d (tl xs)), r3', some (.d (fr L)), r5', some (.d (tls gs)), r7', some (.d (.int (ppl gs))), u9', u10', u11', u12', none, none, none, none] [c] := by
  have st : ∀ (w : Nat) (hw : w < 3) (r3 r7 u9 u10 u11 u12 : Option Val), _ := fun w hw r3 r7 u9 u10 u11 u12 => word1 w hw ns xs hL h c r3 r7 u9 u10 u11 u12
  obtain ⟨a3, a7, a9, a10, a11, a12, e0⟩ := st 0 (by decide) r3 r7 u9 u10 u11 u12
  obtain ⟨b3, b7, b9, b10, b11, b12, e1⟩ := st 1 (by decide) (killV 1 a3) (killV 1 a7) (killV 1 a9) (killV 1 a10) (killV 1 a11) (killV 1 a12)
  obtain ⟨d3, d7, d9, d10, d11, d12, e2⟩ := st 2 (by decide) (killV 1 b3) (killV 1 b7) (killV 1 b9) (killV 1 b10) (killV 1 b11) (killV 1 b12)
  simp only [wd] at e0 e1 e2
  exact ⟨killV 1 d3, _, killV 1 d7, killV 1 d9, killV 1 d10, killV 1 d11, killV 1 d12, by simp [forLoop, stays, e0, e1, e2]; rfl⟩
end K35
namespace K35
open PySem Rf Lb
theorem law_true : ∀ ns : List Int, ns.length ≤ 63 → call tab 20 "law" [.scr ns] [] = .ok (.d (.bool true)) [] := by
  intro ns hns
  rw [call_eq (m := m_law) rfl rfl]
  obtain ⟨ds, e0, d0⟩ := sp_draw (T := tab) rfl 18 ns [] hns
  obtain ⟨v1, c1, e1, a1, b1, d1⟩ := tk 18 (.lst ds) [] 6 3 d0 (by decide) (by unfold Bd; decide) (by decide)
  obtain ⟨xs, c2, e2, d2, hx⟩ : ∃ xs c2, call tab 19 "_law_lot" [.loc 0, .d (.int (if v1 = 0 then 40 else 7)), .d (.int 1000000)] [c1] = .ok (.d (tl xs)) [c2] ∧ Dr c2 ∧ Lot xs 40 1000000 := by
    by_cases hv : v1 = 0
    · rw [if_pos hv]
      exact dlot 17 c1 [] 40 1000000 d1 (by decide) (by decide) (by decide) (by decide)
    · rw [if_neg hv]
      obtain ⟨xs, c2, q1, q2, q3⟩ := dlot 17 c1 [] 7 1000000 d1 (by decide) (by decide) (by decide) (by decide)
      exact ⟨xs, c2, q1, q2, q3.pos, Nat.le_trans q3.len (by decide), q3.mem, q3.srt⟩
  obtain ⟨_, _, e3, c3, u3, u4, u5, rfl, d3, rfl⟩ := turns ns c2 d2 hx
  unfold b3 b4 at e3
  obtain ⟨v4, c4, e4, a4, b4, d4⟩ := tk 18 c3 [] 4 3 d3 (by decide) (by unfold Bd; decide) (by decide)
  obtain ⟨_, _, e5, gs, c5, rfl, rfl, d5, hg⟩ := draw_groups c4 [some (.scr ns), some (.loc 0), some (.d (tl xs)), u3, u4, u5, none, none, none, none, none, none, none, none, none, none, none] rfl (by simp) (1 + v4).toNat (by omega) (by omega) d4
  simp only [List.set_cons_succ, List.set_cons_zero] at e5
  have g4 : -100000000 ≤ 1 + v4 ∧ 1 + v4 ≤ 100000000 := by omega
  have p1 := lc_map (g := tl) (fun g : List Int => PyData.int (g.length : Int)) (w := ⟨gs.map tl, []⟩) (base := [some (.scr ns), some (.loc 0), some (.d (tl xs)), u3, u4, u5, some (.d (tls gs)), none, none, none, none, none, none, none, none, none, none]) (t := .nm 9) (e := evE tab.gl (call tab 19) (.blt .len (.cons (.var 9) .nil))) (S := [c5]) rfl gs [] (by have := hg.len; simp [lim]; omega) fun x hx => ⟨_, rfl, by simp [tl]⟩
  rw [List.nil_append] at p1
  have es : (gs.map fun g : List Int => (g.length : Int)).sum = ppl gs := rfl
  obtain ⟨v6, c6, e6, a6, b6, d6⟩ := tk 18 c5 [] gs.length 3 d5 (by have := hg.pos; omega) (by have := hg.len; unfold Bd; omega) (by decide)
  obtain ⟨g, hgi, hgm⟩ : ∃ g, idxD (tls gs) v6 = some (tl g) ∧ g ∈ gs := by
    have h6 : v6.toNat < gs.length := by omega
    refine ⟨gs[v6.toNat], idxL (xs := gs.map tl) a6 ?_, List.getElem_mem _⟩
    rw [List.getElem?_map, List.getElem?_eq_getElem h6]
    rfl
  obtain ⟨L, c7, e7, d7, hL⟩ := l_line 17 c6 [] d6 (hg.l40 g hgm)
  obtain ⟨r3, r5, r7, u9, u10, u11, u12, e8⟩ := words3 ns xs hL hg c7 u3 u5 none none none none none
  unfold bw be at e8
  obtain ⟨v9, c9, e9, a9, b9, d9⟩ := tk 18 c7 [] 9 4 d7 (by decide) (by unfold Bd; decide) (by decide)
  obtain ⟨bad, i9, hb1, hb2⟩ := pick_line a9 b9
  obtain ⟨v10, c10, e10, a10, b10, d10⟩ := tk 18 c9 [] 6 3 d9 (by decide) (by unfold Bd; decide) (by decide)
  obtain ⟨stg, i10, hs1, hs2⟩ := pick_word a10 b10
  obtain ⟨n, c11, e11, d11, hn⟩ := l_bad 17 c10 [] d10 hx
  obtain ⟨v12, c12, e12, a12, b12, d12⟩ := tk 18 c11 [] 8 4 d11 (by decide) (by unfold Bd; decide) (by decide)
  obtain ⟨wr, i12, hw⟩ := pick_groups a12 b12 hn hx
  have m1 := l_mal0 10 (l := fr L) (w := .str "gap") [c11] (mal_lot 10 [c11] hn)
  have m2 := l_mal0 10 (w := .str "sen") [c11] (mal_line 10 [c11] hx hb2 hb1)
  have m3 := l_mal0 10 [c11] (mal_word 10 [c11] hx hL hs1)
  have m4 := l_mal1 10 (l := fr L) (w := .str "count") [c12] (mal_groups 10 [c12] hw)
  have m5 := l_mal1 10 [c12] (malG_word 10 [c12] hg hL (w := .str "sen") (fun s e => by decide +kernel))
  have m6 := l_mal1 10 (w := .str "gap") [c12] (malG_line 10 [c12] hg hb2 hb1)
  have m7 := l_mal1 10 [c12] (malG_word 10 [c12] hg hL hs2)
  have et : (PyData.tuple (gs.map tl)) = tls gs := rfl
  have eq : seqD [c5] (.d (tls gs)) = some (gs.map tl) := rfl
  have el : bltD .len [tls gs] = some (.int gs.length) := by simp [tls]
  have sl : slcD (tl xs) none (some 1) = some (tl (xs.take 1)) := by
    have h1 := hx.pos
    show some (PyData.tuple (cutD (xs.map .int) none (some ((1 : Nat) : Int)))) = _
    rw [cut_to (by simpa using h1), tl, List.map_take]
  have t1 : binD .Mult (.tuple [tl (xs.take 1)]) (.int 11) = some (.tuple (List.replicate 11 [tl (xs.take 1)]).flatten) := by rfl
  have t2 : binD .Mult (.tuple [.int 1]) (.int 21) = some (.tuple (List.replicate 21 [.int 1]).flatten) := by rfl
  have t3 : binD .Mult (.tuple [.int 1]) (.int 20) = some (.tuple (List.replicate 20 [.int 1]).flatten) := by rfl
  have fr1 : tab.fr "_law_draw" = true := rfl
  simp at i12
  by_cases hv : v1 = 0
  · simp only [hv, if_true] at e2
    simp [-List.map_map, m_law, args0, s_for, isFr, e0, fr1, e1, hv, e2, e3, e4, g4, x_lc, e5, noErr_okL, lim, et, eq, p1, es, el, e6, hgi, e7, e8, e9, i9, e10, i10, e11, m1, m2, m3, sl, t1, t2, t3, e12, i12, m4, m5, m6, m7]
  · simp only [hv, if_false] at e2
    simp [-List.map_map, m_law, args0, s_for, isFr, e0, fr1, e1, hv, e2, e3, e4, g4, x_lc, e5, noErr_okL, lim, et, eq, p1, es, el, e6, hgi, e7, e8, e9, i9, e10, i10, e11, m1, m2, m3, sl, t1, t2, t3, e12, i12, m4, m5, m6, m7]
end K35
namespace K35
def deep : Nat := 20
end K35
open PySem PySem.W PyProof.Rows
set_option maxRecDepth 100000 in
set_option maxHeartbeats 0 in
theorem PySem.Challenge.cw_levelpurses_k35_poverty_below_lines_holds : PySem.Challenge.rw_levelpurses_k35_poverty_below_lines.Holds := by
  w_on; o_law; k_head; (case hw => w_witness2)
  k_fill
  refine Rf.walk (l := PySem.Challenge.rw_levelpurses_k35_poverty_below_lines) (T := K35.tab) (k := K35.deep) rfl rfl ⟨rfl, by decide, by decide⟩ rfl (fun w h Y => PySem.W.kIn_of Y) K35.d_law rfl K35.law_true ?F
  case F =>
    intro w mg h KX G
    refine ⟨K35.fsB, K35.xsB, ?_⟩
    refine' K35.all_mk KX G ?a0 ?l0 ?c0 ?k0 ?a1 ?l1 ?c1 ?k1 ?a2 ?l2 ?c2 ?k2 ?a3 ?l3 ?c3 ?k3 ?a4 ?l4 ?c4 ?k4 ?a5 ?l5 ?c5 ?k5 ?a6 ?l6 ?c6 ?k6 ?a7 ?l7 ?c7 ?k7 ?a8 ?l8 ?c8 ?k8 ?a9 ?l9 ?c9 ?k9 ?a10 ?l10 ?c10 ?k10 ?a11 ?l11 ?c11 ?k11 ?a12 ?l12 ?c12 ?k12 ?a13 ?l13 ?c13 ?k13 ?a14 ?l14 ?c14 ?k14 ?a15 ?l15 ?c15 ?k15 ?a16 ?l16 ?c16 ?k16 ?a17 ?l17 ?c17 ?k17 ?a18 ?l18 ?c18 ?k18 ?a19 ?l19 ?c19 ?k19 ?a20 ?l20 ?c20 ?k20 ?a21 ?l21 ?c21 ?k21 ?a22 ?l22 ?c22 ?k22 ?a23 ?l23 ?c23 ?k23 ?a24 ?l24 ?c24 ?k24 ?a25 ?l25 ?c25 ?k25 ?a26 ?l26 ?c26 ?k26 ?a27 ?l27 ?c27 ?k27 ?a28 ?l28 ?c28 ?k28 ?a29 ?l29 ?c29 ?k29 ?a30 ?l30 ?c30 ?k30 ?a31 ?l31 ?c31 ?k31 ?a32 ?l32 ?c32 ?k32 ?a33 ?l33 ?c33 ?k33 ?a34 ?l34 ?c34 ?k34 ?a35 ?l35 ?c35 ?k35 ?a36 ?l36 ?c36 ?k36 ?a37 ?l37 ?c37 ?k37 ?vg0 ?vr0 ?vg1 ?vr1 ?vg2 ?vr2 ?vg3 ?vr3 ?vg4 ?vr4 ?vg5 ?vr5 ?z0 ?z1 ?z2 ?z3 ?z4 ?z5 ?z6 ?z7 ?z8 ?z9 ?z10 ?z11 ?z12 ?z13 ?z14 ?z15 ?z16 ?z17 ?z18 ?zV ?xa0 ?xe0 ?xk0 ?xs0 ?xt0 ?xh0 ?xa1 ?xe1 ?xk1 ?xs1 ?xt1 ?xh1 ?xca1 ?xcb1 ?xcc1 ?xcd1 ?xcp ?xcq ?xm_0_0 ?xm_0_1 ?xm_1_0 ?xm_1_1 ?xn_1_0 ?xv_1
    (case a0 => k_is); (case l0 => k_is); (case c0 => k_is); (case k0 => k_is); (case a1 => k_is); (case l1 => k_is)
    (case c1 => k_is); (case k1 => k_is); (case a2 => k_is); (case l2 => k_is); (case c2 => k_is); (case k2 => k_is)
    (case a3 => k_is); (case l3 => k_is); (case c3 => k_is); (case k3 => k_is); (case a4 => k_is); (case l4 => k_is)
    (case c4 => k_is); (case k4 => k_is); (case a5 => k_is); (case l5 => k_is); (case c5 => k_is); (case k5 => k_is)
    (case a6 => k_is); (case l6 => k_is); (case c6 => k_is); (case k6 => k_is); (case a7 => k_is); (case l7 => k_is)
    (case c7 => k_is); (case k7 => k_is); (case a8 => k_is); (case l8 => k_is); (case c8 => k_is); (case k8 => k_is)
    (case a9 => k_is); (case l9 => k_is); (case c9 => k_is); (case k9 => k_is); (case a10 => k_is); (case l10 => k_is)
    (case c10 => k_is); (case k10 => k_is); (case a11 => k_is); (case l11 => k_is); (case c11 => k_is); (case k11 => k_is)
    (case a12 => k_is); (case l12 => k_is); (case c12 => k_is); (case k12 => k_is); (case a13 => k_is); (case l13 => k_is)
    (case c13 => k_is); (case k13 => k_is); (case a14 => k_is); (case l14 => k_is); (case c14 => k_is); (case k14 => k_is)
    (case a15 => k_is); (case l15 => k_is); (case c15 => k_is); (case k15 => k_is); (case a16 => k_is); (case l16 => k_is)
    (case c16 => k_is); (case k16 => k_is); (case a17 => k_is); (case l17 => k_is); (case c17 => k_is); (case k17 => k_is)
    (case a18 => k_is); (case l18 => k_is); (case c18 => k_is); (case k18 => k_is); (case a19 => k_is); (case l19 => k_is)
    (case c19 => k_is); (case k19 => k_is); (case a20 => k_is); (case l20 => k_is); (case c20 => k_is); (case k20 => k_is)
    (case a21 => k_is); (case l21 => k_is); (case c21 => k_is); (case k21 => k_is); (case a22 => k_is); (case l22 => k_is)
    (case c22 => k_is); (case k22 => k_is); (case a23 => k_is); (case l23 => k_is); (case c23 => k_is); (case k23 => k_is)
    (case a24 => k_is); (case l24 => k_is); (case c24 => k_is); (case k24 => k_is); (case a25 => k_is); (case l25 => k_is)
    (case c25 => k_is); (case k25 => k_is); (case a26 => k_is); (case l26 => k_is); (case c26 => k_is); (case k26 => k_is)
    (case a27 => k_is); (case l27 => k_is); (case c27 => k_is); (case k27 => k_is); (case a28 => k_is); (case l28 => k_is)
    (case c28 => k_is); (case k28 => k_is); (case a29 => k_is); (case l29 => k_is); (case c29 => k_is); (case k29 => k_is)
    (case a30 => k_is); (case l30 => k_is); (case c30 => k_is); (case k30 => k_is); (case a31 => k_is); (case l31 => k_is)
    (case c31 => k_is); (case k31 => k_is); (case a32 => k_is); (case l32 => k_is); (case c32 => k_is); (case k32 => k_is)
    (case a33 => k_is); (case l33 => k_is); (case c33 => k_is); (case k33 => k_is); (case a34 => k_is); (case l34 => k_is)
    (case c34 => k_is); (case k34 => k_is); (case a35 => k_is); (case l35 => k_is); (case c35 => k_is); (case k35 => k_is)
    (case a36 => k_is); (case l36 => k_is); (case c36 => k_is); (case k36 => k_is); (case a37 => k_is); (case l37 => k_is)
    (case c37 => k_is); (case k37 => k_is); (case vg0 => k_is); (case vr0 => first | rfl | kernel_rfl); (case vg1 => k_is); (case vr1 => first | rfl | kernel_rfl)
    (case vg2 => k_is); (case vr2 => first | rfl | kernel_rfl); (case vg3 => k_is); (case vr3 => first | rfl | kernel_rfl); (case vg4 => k_is); (case vr4 => first | rfl | kernel_rfl)
    (case vg5 => k_is); (case vr5 => first | rfl | kernel_rfl); (case z0 => k_is); (case z1 => k_is); (case z2 => k_is); (case z3 => k_is)
    (case z4 => k_is); (case z5 => k_is); (case z6 => k_is); (case z7 => k_is); (case z8 => k_is); (case z9 => k_is)
    (case z10 => k_is); (case z11 => k_is); (case z12 => k_is); (case z13 => k_is); (case z14 => k_is); (case z15 => k_is)
    (case z16 => k_is); (case z17 => k_is); (case z18 => k_is); (case zV => k_is); (case xa0 => k_is); (case xe0 => k_exc)
    (case xk0 => k_is); (case xs0 => k_is); (case xt0 => k_is); (case xh0 => k_is); (case xa1 => k_is); (case xe1 => k_exc)
    (case xk1 => k_is); (case xs1 => k_is); (case xt1 => k_is); (case xh1 => k_is); (case xca1 => k_is); (case xcb1 => k_is)
    (case xcc1 => k_is); (case xcd1 => k_is); (case xcp => k_is); (case xcq => k_is); (case xm_0_0 => k_is); (case xm_0_1 => k_is)
    (case xm_1_0 => k_is); (case xm_1_1 => k_is); (case xn_1_0 => first | rfl | decide); (case xv_1 => k_is)
