import PyProof.Rows.All
import Wide.All
import OpenK.AllK
import Wide.FinOn
import PySem.Challenge.RW_tableshapes_k01_whole_rows_and_lots
import HandS.ForMost
import HandS.Exc
import KE.LtData
import KE.DataCmp
import HandS.Lambda
import HandS.TupAny
import HandS.TupLe
import HandS.Deep
import HandS.IsInst
import HandS.Style
import HandS.Flow
import HandS.RaiseMore
import HandS.Zip
import HandS.Walk
import HandS.TryOnly
import HandS.TryMany
import HandS.ExcOwn
import HandS.CallLocal
import HandS.Defaults
import KE.GoesMore
import KE.GoesEnum
import HandS.EndTab
import HandS.HeadHook4
import HandS.Head2
import KE.DataEq
set_option Elab.async false
set_option linter.all false
set_option maxRecDepth 100000
section
/-! MA: a mini interpreter: values as trees, a heap of lists and dicts by number, names by slot. -/
namespace MI
open PySem

/-- a value: what never changes as a tree; ref n: cell n of the mini heap; fn k: def k; clo l: lambda l of the law's frame -/
inductive D where
  | none | bool (b : Bool) | int (i : Int) | str (s : Str) | tup (xs : List D) | ref (n : Nat) | fn (k : Nat) | clo (l : Nat)
  deriving Inhabited

mutual
def D.eqb : D → D → Bool
  | .none, .none => true
  | .bool a, .bool b => a == b
  | .int a, .int b => a == b
  | .str a, .str b => decide (a = b)
  | .tup xs, .tup ys => D.eqbs xs ys
  | .ref a, .ref b => a == b
  | .fn a, .fn b => a == b
  | .clo a, .clo b => a == b
  | _, _ => false
def D.eqbs : List D → List D → Bool
  | [], [] => true
  | x :: xs, y :: ys => D.eqb x y && D.eqbs xs ys
  | _, _ => false
end
mutual
theorem D.eqb_ok : ∀ {x y : D}, D.eqb x y = true → x = y
  | .none, y, h => by cases y <;> simp_all [D.eqb]
  | .bool a, y, h => by cases y <;> simp_all [D.eqb]
  | .int a, y, h => by cases y <;> simp_all [D.eqb]
  | .str a, y, h => by cases y <;> simp_all [D.eqb]
  | .tup xs, y, h => by
    cases y <;> simp [D.eqb] at h
    rw [D.eqbs_ok h]
  | .ref a, y, h => by cases y <;> simp_all [D.eqb]
  | .fn a, y, h => by cases y <;> simp_all [D.eqb]
  | .clo a, y, h => by cases y <;> simp_all [D.eqb]
theorem D.eqbs_ok : ∀ {xs ys : List D}, D.eqbs xs ys = true → xs = ys
  | [], ys, h => by cases ys <;> simp_all [D.eqbs]
  | x :: xs, ys, h => by
    cases ys with
    | nil => simp [D.eqbs] at h
    | cons y ys =>
      simp [D.eqbs] at h
      rw [D.eqb_ok h.1, D.eqbs_ok h.2]
end
mutual
@[simp] theorem D.eqb_self : ∀ x : D, D.eqb x x = true
  | .none => by simp [D.eqb]
  | .bool a => by simp [D.eqb]
  | .int a => by simp [D.eqb]
  | .str a => by simp [D.eqb]
  | .tup xs => by simp [D.eqb, D.eqbs_self xs]
  | .ref a => by simp [D.eqb]
  | .fn a => by simp [D.eqb]
  | .clo a => by simp [D.eqb]
@[simp] theorem D.eqbs_self : ∀ xs : List D, D.eqbs xs xs = true
  | [] => by simp [D.eqbs]
  | x :: xs => by simp [D.eqbs, D.eqb_self x, D.eqbs_self xs]
end

mutual
/-- no cell, no lambda in it -/
def D.flat : D → Bool
  | .ref _ => false
  | .clo _ => false
  | .tup xs => D.flats xs
  | _ => true
def D.flats : List D → Bool
  | [] => true
  | x :: xs => D.flat x && D.flats xs
end

/-- a cell: a list; a list that is only read; a dict; an instance -/
inductive MO where
  | list (xs : List D)
  | frz (xs : List D)
  | dict (kvs : List (D × D))
  | inst (c : Nat) (fs : List (Str × D))
  deriving Inhabited
def eqKvs : List (D × D) → List (D × D) → Bool
  | [], [] => true
  | (a, b) :: r, (c, d) :: q => D.eqb a c && D.eqb b d && eqKvs r q
  | _, _ => false
theorem eqKvs_ok : ∀ {x y : List (D × D)}, eqKvs x y = true → x = y
  | [], y, h => by cases y <;> simp_all [eqKvs]
  | (a, b) :: r, y, h => by
    cases y with
    | nil => simp [eqKvs] at h
    | cons p q =>
      obtain ⟨c, d⟩ := p
      simp [eqKvs] at h
      rw [D.eqb_ok h.1.1, D.eqb_ok h.1.2, eqKvs_ok h.2]
@[simp] theorem eqKvs_self : ∀ x : List (D × D), eqKvs x x = true
  | [] => rfl
  | (a, b) :: r => by simp [eqKvs, eqKvs_self r]
def eqFs : List (Str × D) → List (Str × D) → Bool
  | [], [] => true
  | (a, b) :: r, (c, d) :: q => decide (a = c) && D.eqb b d && eqFs r q
  | _, _ => false
theorem eqFs_ok : ∀ {x y : List (Str × D)}, eqFs x y = true → x = y
  | [], y, h => by cases y <;> simp_all [eqFs]
  | (a, b) :: r, y, h => by
    cases y with
    | nil => simp [eqFs] at h
    | cons p q =>
      obtain ⟨c, d⟩ := p
      simp [eqFs] at h
      rw [h.1.1, D.eqb_ok h.1.2, eqFs_ok h.2]
@[simp] theorem eqFs_self : ∀ x : List (Str × D), eqFs x x = true
  | [] => rfl
  | (a, b) :: r => by simp [eqFs, eqFs_self r]
def MO.eqb : MO → MO → Bool
  | .list a, .list b => D.eqbs a b
  | .frz a, .frz b => D.eqbs a b
  | .dict a, .dict b => eqKvs a b
  | .inst c a, .inst d b => c == d && eqFs a b
  | _, _ => false
theorem MO.eqb_ok {x y : MO} (h : MO.eqb x y = true) : x = y := by
  cases x <;> cases y <;> simp [MO.eqb] at h
  · rw [D.eqbs_ok h]
  · rw [D.eqbs_ok h]
  · rw [eqKvs_ok h]
  · rw [h.1, eqFs_ok h.2]
@[simp] theorem MO.eqb_self (x : MO) : MO.eqb x x = true := by cases x <;> simp [MO.eqb]
abbrev Hs := List MO
/-- the one heap begins with the other -/
def Hs.pre : Hs → Hs → Bool
  | [], _ => true
  | x :: xs, y :: ys => MO.eqb x y && Hs.pre xs ys
  | _ :: _, [] => false
theorem Hs.pre_ok : ∀ {x y : Hs}, Hs.pre x y = true → ∃ z, y = x ++ z
  | [], y, _ => ⟨y, rfl⟩
  | x :: xs, [], h => by simp [Hs.pre] at h
  | x :: xs, y :: ys, h => by
    simp [Hs.pre] at h
    obtain ⟨z, e⟩ := Hs.pre_ok h.2
    exact ⟨z, by rw [MO.eqb_ok h.1, e]; rfl⟩
@[simp] theorem Hs.pre_app : ∀ (x z : Hs), Hs.pre x (x ++ z) = true
  | [], _ => rfl
  | x :: xs, z => by simp [Hs.pre, Hs.pre_app xs z]
@[simp] theorem Hs.pre_self (x : Hs) : Hs.pre x x = true := by
  have := Hs.pre_app x []
  simpa using this

abbrev Env := List (Option D)
/-- an exception: its class, its fields -/
structure Ex where
  cls : Nat
  fs : List (Str × D)
inductive R (α : Type) where
  | ok (a : α) (h : Hs)
  | exc (x : Ex) (h : Hs)
  | stuck
def R.bind {α β : Type} (r : R α) (f : α → Hs → R β) : R β :=
  match r with
  | .ok a h => f a h
  | .exc x h => .exc x h
  | .stuck => .stuck
@[simp] theorem R.bind_ok {α β : Type} (a : α) (h : Hs) (f : α → Hs → R β) : (R.ok a h).bind f = f a h := rfl
@[simp] theorem R.bind_exc {α β : Type} (x : Ex) (h : Hs) (f : α → Hs → R β) : (R.exc x h).bind f = .exc x h := rfl
@[simp] theorem R.bind_stuck {α β : Type} (f : α → Hs → R β) : (R.stuck : R α).bind f = .stuck := rfl
def ofO {α : Type} (o : Option α) (h : Hs) : R α :=
  match o with
  | some a => .ok a h
  | none => .stuck
@[simp] theorem ofO_some {α : Type} (a : α) (h : Hs) : ofO (some a) h = .ok a h := rfl
@[simp] theorem ofO_none {α : Type} (h : Hs) : ofO (none : Option α) h = .stuck := rfl
/-- a flat value: what was laid meanwhile is forgotten, if nothing that stood was changed -/
def gc (h0 : Hs) (r : R D) : R D :=
  match r with
  | .ok d h => if d.flat && Hs.pre h0 h then .ok d h0 else .ok d h
  | r => r
/-- .. an exception with flat fields -/
def Ex.flat (x : Ex) : Bool := x.fs.all fun p => p.2.flat
def gcX (h0 : Hs) (r : R D) : R D :=
  match r with
  | .ok d h => if d.flat && Hs.pre h0 h then .ok d h0 else .ok d h
  | .exc x h => if x.flat && Hs.pre h0 h then .exc x h0 else .exc x h
  | .stuck => .stuck

/-! ### values as data -/
def mapO {α β : Type} (f : α → Option β) : List α → Option (List β)
  | [] => some []
  | x :: xs => match f x, mapO f xs with
    | some y, some ys => some (y :: ys)
    | _, _ => none
/-- a value as the library's data, n deep -/
def pyD (h : Hs) : Nat → D → Option PyData
  | 0, _ => none
  | _ + 1, .none => some .none
  | _ + 1, .bool b => some (.bool b)
  | _ + 1, .int i => some (.int i)
  | _ + 1, .str s => if PyData.strOk s then some (.str s) else none
  | n + 1, .tup xs => (mapO (pyD h n) xs).map .tuple
  | n + 1, .ref k => match h[k]? with
    | some (.list xs) => (mapO (pyD h n) xs).map .list
    | _ => none
  | _ + 1, .fn _ => none
  | _ + 1, .clo _ => none
def deep : Nat := 40
def eqvD (h : Hs) (x y : D) : Option Bool :=
  match pyD h deep x, pyD h deep y with
  | some a, some b => some (PyData.eqv a b)
  | _, _ => none
/-- an order of data that are alike -/
def ordD (h : Hs) (f : PyData → PyData → Bool) (x y : D) : Option Bool :=
  match pyD h deep x, pyD h deep y with
  | some a, some b => match a with
    | .none => none
    | _ => if PySem.W.alike a b then some (f a b) else none
  | _, _ => none
def truthD (h : Hs) : D → Option Bool
  | .none => some false
  | .bool b => some b
  | .int i => some (i != 0)
  | .str s => if s.length ≤ sizeLine then some ((s.length : Int) != 0) else none
  | .tup xs => some (!xs.isEmpty)
  | .ref k => match h[k]? with
    | some (.list xs) => some (!xs.isEmpty)
    | some (.frz xs) => some (!xs.isEmpty)
    | some (.dict kvs) => some (!kvs.isEmpty)
    | _ => none
  | _ => none

/-! ### the syntax -/
inductive Bop where | add | sub | mul | mod | fdiv | pow | shl
  deriving DecidableEq, Inhabited
inductive Cop where | eq | ne | lt | le | gt | ge | is | isn | inn | nin
  deriving DecidableEq, Inhabited
inductive Ty where | int | bool | str | tuple | list | dict
  deriving DecidableEq, Inhabited
inductive F1 where | abs | int | str | repr | len
  deriving DecidableEq, Inhabited
inductive F2 where | min | max
  deriving DecidableEq, Inhabited
inductive FL where | tuple | all | any | sum | min | max | len
  deriving DecidableEq, Inhabited
inductive Mt where | append | extend | pop | index | get | getd | setdefault | update
  deriving DecidableEq, Inhabited
inductive Tg where | v (i : Nat) | t (ts : List Tg)
  deriving Inhabited

mutual
inductive E where
  | var (i : Nat) | lit (d : D) | glob (k : Nat) | fnv (k : Nat) | noth (x : Nat) (e : E) | lam (l : Nat)
  | tup (es : Es) | new (l : L)
  | bin (o : Bop) (a b : E) | neg (a : E) | not (a : E) | bop (k : Bool) (es : Es)
  | cmp (o : Cop) (a b : E) | chain (o p : Cop) (a b c : E) | ife (c a b : E)
  | call (k : Nat) (es : Es) | callv (i : Nat) (es : Es)
  | isi (a : E) (t : Ty) | f1 (f : F1) (a : E) | f2 (f : F2) (a b : E) | fl (f : FL) (it : It)
  | idx (a b : E) | sl (a : E) (lo hi : O) | rev (a : E)
  | meth (m : Mt) (r : E) (es : Es)
inductive O where | none | some (e : E)
inductive Es where | nil | cons (e : E) (es : Es)
inductive L where
  | disp (es : Es)
  | comp (elt : E) (t : Tg) (it : It) (cs : Es)
  | comp2 (elt : E) (t : Tg) (it : It) (cs : Es) (t1 : Tg) (it1 : It) (cs1 : Es)
  | srt (it : It)
  | lof (it : It)
  | acts (i m : Nat)
inductive It where
  | e (a : E) | l (l : L) | range1 (a : E) | range2 (a b : E) | enum (a : E) | enumL (l : L) | enumZ (a b : E) | zip (a b : E)
end
mutual
inductive S where
  | assign (t : Tg) (e : E) | asub (o i e : E) | aug (i : Nat) (op : Bop) (e : E) | augsub (o i : E) (op : Bop) (e : E)
  | expr (e : E) | ret (e : E) | retn | ite (c : E) (a b : Ss)
  | for_ (t : Tg) (it : It) (b : Ss) | while_ (c : E) (b : Ss) | brk | cont | pass
  | raise (c : Nat) (es : Es) | try_ (b : Ss) (hs : Hd)
inductive Ss where | nil | cons (s : S) (ss : Ss)
inductive Hd where | nil | cons (c : Nat) (v : Option Nat) (b : Ss) (r : Hd)
end

def Es.len : Es → Nat
  | .nil => 0
  | .cons _ es => es.len + 1

/-! ### the operations -/
def small64 (i : Int) : Bool := decide (i.natAbs < 2 ^ 64)
def newC (o : MO) (h : Hs) : R D := .ok (.ref h.length) (h ++ [o])
def Bop.run (o : Bop) (x y : D) (h : Hs) : R D :=
  match o, x, y with
  | .add, .int i, .int j => .ok (.int (i + j)) h
  | .add, .str i, .str j => if i.length + j.length ≤ sizeLine then .ok (.str (i ++ j)) h else .stuck
  | .add, .tup xs, .tup ys => if xs.length + ys.length ≤ sizeLine then .ok (.tup (xs ++ ys)) h else .stuck
  | .add, .ref a, .ref b => match h[a]?, h[b]? with
    | some (.list xs), some (.list ys) => if xs.length + ys.length ≤ sizeLine then newC (.list (xs ++ ys)) h else .stuck
    | _, _ => .stuck
  | .sub, .int i, .int j => .ok (.int (i - j)) h
  | .mul, .int i, .int j => if small64 i || small64 j then .ok (.int (i * j)) h else .stuck
  | .mod, .int i, .int j => if 0 < j then .ok (.int (i % j)) h else .stuck
  | .fdiv, .int i, .int j => if 0 < j ∧ j.natAbs < 1073741824 then .ok (.int (i / j)) h else .stuck
  | .pow, .int i, .int j => if 0 ≤ j ∧ j.natAbs ≤ 1000000 ∧ i.natAbs < 2 ^ 64 then .ok (.int (i ^ j.toNat)) h else .stuck
  | .shl, .int i, .int j => if 0 ≤ j ∧ j.natAbs ≤ 1000000 ∧ i.natAbs < 2 ^ 64 then .ok (.int (i * 2 ^ j.toNat)) h else .stuck
  | _, _, _ => .stuck
/-- op= of ints -/
def Bop.irun (o : Bop) (x y : D) : Option D :=
  match o, x, y with
  | .add, .int i, .int j => some (.int (i + j))
  | .sub, .int i, .int j => some (.int (i - j))
  | .mul, .int i, .int j => if small64 i || small64 j then some (.int (i * j)) else none
  | _, _, _ => none
/-- a datum among data -/
def amongD (h : Hs) (x : D) (ys : List D) : Option Bool :=
  match pyD h deep x, mapO (pyD h deep) ys with
  | some d, some ds => some (ds.any fun z => PyData.eqv z d)
  | _, _ => none
def keyOk (d : D) : Bool := match d with
  | .none => true | .bool _ => true | .int _ => true | .str _ => true | .tup _ => true | _ => false
/-- what a dict has at a key -/
def look (h : Hs) (k : D) : List (D × D) → Option (Option D)
  | [] => some none
  | (q, v) :: r => match eqvD h q k with
    | some true => some (some v)
    | some false => look h k r
    | none => none
def inD (h : Hs) (x y : D) : Option Bool :=
  match y with
  | .tup ys => amongD h x ys
  | .str s => match x with
    | .str t => some (!(Builtin.Str.occurrences s t 0 s.length 1).isEmpty)
    | _ => none
  | .ref k => match h[k]? with
    | some (.list ys) => amongD h x ys
    | some (.dict kvs) => if keyOk x then (look h x kvs).map (·.isSome) else none
    | _ => none
  | _ => none
def isNone : D → Bool
  | .none => true
  | _ => false
def Cop.run (o : Cop) (x y : D) (h : Hs) : Option Bool :=
  match o with
  | .eq => eqvD h x y
  | .ne => (eqvD h x y).map (!·)
  | .lt => match x, y with
    | .int i, .int j => some (decide (i < j))
    | _, _ => ordD h PySem.W.dataLt x y
  | .gt => match x, y with
    | .int i, .int j => some (decide (j < i))
    | _, _ => ordD h (fun a b => PySem.W.dataLt b a) x y
  | .le => match x, y with
    | .int i, .int j => some (decide (i ≤ j))
    | _, _ => ordD h (fun a b => !PySem.W.dataLt b a) x y
  | .ge => match x, y with
    | .int i, .int j => some (decide (j ≤ i))
    | _, _ => ordD h (fun a b => !PySem.W.dataLt a b) x y
  | .is => match y with
    | .none => some (isNone x)
    | _ => none
  | .isn => match y with
    | .none => some (!isNone x)
    | _ => none
  | .inn => inD h x y
  | .nin => (inD h x y).map (!·)
def Ty.is (t : Ty) (h : Hs) (x : D) : Option Bool :=
  match x with
  | .none => some false
  | .bool _ => some (t == .bool || t == .int)
  | .int _ => some (t == .int)
  | .str _ => some (t == .str)
  | .tup _ => some (t == .tuple)
  | .ref k => match h[k]? with
    | some (.list _) => some (t == .list)
    | some (.dict _) => some (t == .dict)
    | _ => none
  | _ => none
def lenD (h : Hs) (x : D) : Option Nat :=
  match x with
  | .tup xs => some xs.length
  | .str s => if s.length ≤ sizeLine then some s.length else none
  | .ref k => match h[k]? with
    | some (.list xs) => some xs.length
    | some (.dict kvs) => some kvs.length
    | _ => none
  | _ => none
def F1.run (f : F1) (x : D) (h : Hs) : Option D :=
  match f, x with
  | .abs, .int i => some (.int (if i < 0 then -i else i))
  | .int, .int i => some (.int i)
  | .int, .bool b => some (.int (if b then 1 else 0))
  | .str, .int i => if i.natAbs.log2 < 1920 then some (.str (toString i)) else none
  | .len, x => (lenD h x).map fun n : Nat => D.int (n : Int)
  | .repr, x => match pyD h deep x with
    | some p => if p.showable && decide (p.shown.length ≤ sizeLine) then some (.str p.shown) else none
    | none => none
  | _, _ => none
def F2.run (f : F2) (x y : D) : Option D :=
  match f, x, y with
  | .min, .int i, .int j => some (.int (if j < i then j else i))
  | .max, .int i, .int j => some (.int (if j > i then j else i))
  | _, _, _ => none
def intsD : List D → Option (List Int)
  | [] => some []
  | .int i :: r => (intsD r).map (i :: ·)
  | _ :: _ => none
def boolsD : List D → Option (List Bool)
  | [] => some []
  | .bool b :: r => (boolsD r).map (b :: ·)
  | _ :: _ => none
def minI : List Int → Option Int
  | [] => none
  | x :: xs => some (xs.foldl (fun a b => if b < a then b else a) x)
def maxI : List Int → Option Int
  | [] => none
  | x :: xs => some (xs.foldl (fun a b => if b > a then b else a) x)
def FL.run (f : FL) (xs : List D) : Option D :=
  match f with
  | .tuple => some (.tup xs)
  | .all => (boolsD xs).map fun bs => .bool (bs.all id)
  | .any => (boolsD xs).map fun bs => .bool (bs.any id)
  | .sum => (intsD xs).map fun is => .int is.sum
  | .min => (intsD xs).bind fun is => (minI is).map .int
  | .max => (intsD xs).bind fun is => (maxI is).map .int
  | .len => some (.int (xs.length : Nat))
/-- the place of an index, as Python counts -/
def ixAt (n : Nat) (i : Int) : Option Nat :=
  if 0 ≤ i then (if i < n then some i.toNat else none) else (if -(n : Int) ≤ i then some (i + n).toNat else none)
def idxD (h : Hs) (x i : D) : Option D :=
  match x, i with
  | .tup xs, .int i => (ixAt xs.length i).bind fun k => xs[k]?
  | .str s, .int i => if 0 ≤ i ∧ i < s.length ∧ s.length ≤ sizeLine then (s.cps[i.toNat]?).map fun c => .str ⟨#[c]⟩ else none
  | .ref k, i => match h[k]?, i with
    | some (.list xs), .int i => (ixAt xs.length i).bind fun k => xs[k]?
    | some (.frz xs), .int i => (ixAt xs.length i).bind fun k => xs[k]?
    | some (.dict kvs), i => if keyOk i then (look h i kvs).bind id else none
    | _, _ => none
  | _, _ => none
/-- .. of a thing that can be written -/
def gidxD (h : Hs) (x i : D) : Option D :=
  match x with
  | .ref k => match h[k]? with
    | some (.list _) => idxD h x i
    | _ => none
  | _ => none
/-- a bound of a slice -/
def cutAt (n : Nat) (d : Nat) : Option Int → Nat
  | none => d
  | some i => if i < 0 then (i + n).toNat else min i.toNat n
def cut {α : Type} (xs : List α) (lo hi : Nat) : List α := (xs.take hi).drop lo
def slD (x : D) (lo hi : Option Int) (h : Hs) : R D :=
  match x with
  | .tup xs => .ok (.tup (cut xs (cutAt xs.length 0 lo) (cutAt xs.length xs.length hi))) h
  | .ref k => match h[k]? with
    | some (.list xs) => newC (.list (cut xs (cutAt xs.length 0 lo) (cutAt xs.length xs.length hi))) h
    | some (.frz xs) => newC (.list (cut xs (cutAt xs.length 0 lo) (cutAt xs.length xs.length hi))) h
    | _ => .stuck
  | _ => .stuck
def revD (x : D) (h : Hs) : R D :=
  match x with
  | .ref k => match h[k]? with
    | some (.list xs) => newC (.list xs.reverse) h
    | _ => .stuck
  | _ => .stuck
/-- a dict with a value at a key -/
def putK (h : Hs) (k v : D) : List (D × D) → Option (List (D × D))
  | [] => some [(k, v)]
  | (q, u) :: r => match eqvD h q k with
    | some true => some ((q, v) :: r)
    | some false => (putK h k v r).map ((q, u) :: ·)
    | none => none
def setD (x i v : D) (h : Hs) : Option Hs :=
  match x with
  | .ref a => match h[a]? with
    | some (.list xs) => match i with
      | .int i => (ixAt xs.length i).map fun k => h.set a (.list (xs.set k v))
      | _ => none
    | some (.dict kvs) => if keyOk i && decide (kvs.length < sizeLine) then (putK h i v kvs).map fun q => h.set a (.dict q) else none
    | _ => none
  | _ => none
/-- a method's own thing, as it stands ahead of the arguments -/
def Mt.recv (m : Mt) (x : D) (h : Hs) : Bool :=
  match m, x with
  | .append, .ref a => match h[a]? with
    | some (.list _) => true
    | _ => false
  | .extend, .ref a => match h[a]? with
    | some (.list _) => true
    | _ => false
  | _, _ => false
def Mt.run (m : Mt) (x : D) (as : List D) (h : Hs) : R D :=
  match m, x, as with
  | .append, .ref a, [v] => match h[a]? with
    | some (.list xs) => if xs.length < sizeLine then .ok .none (h.set a (.list (xs ++ [v]))) else .stuck
    | _ => .stuck
  | .extend, .ref a, [.ref b] => match h[a]?, h[b]? with
    | some (.list xs), some (.list ys) => if xs.length + ys.length ≤ sizeLine then .ok .none (h.set a (.list (xs ++ ys))) else .stuck
    | _, _ => .stuck
  | _, _, _ => .stuck

/-! ### targets -/
mutual
def Tg.slots : Tg → List Nat
  | .v i => [i]
  | .t ts => Tg.slotss ts
def Tg.slotss : List Tg → List Nat
  | [] => []
  | g :: gs => g.slots ++ Tg.slotss gs
end
/-- the items that a target of several names takes -/
def unpk (h : Hs) : D → Option (List D)
  | .tup xs => some xs
  | .ref k => match h[k]? with
    | some (.list xs) => some xs
    | _ => none
  | _ => none
mutual
def Tg.bind (h : Hs) : Tg → D → Env → Option Env
  | .v i, d, env => some (env.set i (some d))
  | .t ts, d, env => match unpk h d with
    | some xs => Tg.binds h ts xs env
    | none => none
def Tg.binds (h : Hs) : List Tg → List D → Env → Option Env
  | [], [], env => some env
  | g :: gs, x :: xs, env => match g.bind h x env with
    | some e => Tg.binds h gs xs e
    | none => none
  | _, _, _ => none
end
def wipeE (env : Env) : List Nat → Env
  | [] => env
  | i :: r => (wipeE env r).set i none

/-! ### loops -/
/-- what a loop over lists in cells looks at, at each turn: they stand as they stood -/
abbrev Gd := List (Nat × List D)
def gd1 (h : Hs) (p : Nat × List D) : Bool :=
  match h[p.1]? with
  | some (.list ys) => D.eqbs ys p.2
  | some (.frz ys) => D.eqbs ys p.2
  | _ => false
def Gd.ok (g : Gd) (h : Hs) : Bool := g.all (gd1 h)
/-- an exception does not leave a comprehension here -/
def noX {α : Type} (r : R α) : R α :=
  match r with
  | .exc _ _ => .stuck
  | r => r
@[simp] theorem noX_ok {α : Type} (a : α) (h : Hs) : noX (.ok a h) = .ok a h := rfl
@[simp] theorem noX_stuck {α : Type} : noX (.stuck : R α) = .stuck := rfl
def loopC (g : Gd) (f : D → Hs → R (Option D)) : List D → Hs → R (List D)
  | [], h => if g.ok h then .ok [] h else .stuck
  | x :: xs, h => if g.ok h then (noX (f x h)).bind fun o h1 => (loopC g f xs h1).bind fun ys h2 => .ok (match o with
    | some y => y :: ys
    | none => ys) h2 else .stuck
/-- the items of the inner loops, one behind the other -/
def loopCC (g : Gd) (f : D → Hs → R (List D)) : List D → Hs → R (List D)
  | [], h => if g.ok h then .ok [] h else .stuck
  | x :: xs, h => if g.ok h then (noX (f x h)).bind fun zs h1 => (loopCC g f xs h1).bind fun ys h2 => .ok (zs ++ ys) h2 else .stuck

inductive RS where
  | next (env : Env) (h : Hs) | ret (d : D) (h : Hs) | brk (env : Env) (h : Hs) | cont (env : Env) (h : Hs) | exc (x : Ex) (env : Env) (h : Hs) | stuck
def R.then {α : Type} (r : R α) (env : Env) (f : α → Hs → RS) : RS :=
  match r with
  | .ok a h => f a h
  | .exc x h => .exc x env h
  | .stuck => .stuck
@[simp] theorem R.then_ok {α : Type} (a : α) (h : Hs) (env : Env) (f : α → Hs → RS) : (R.ok a h).then env f = f a h := rfl
@[simp] theorem R.then_exc {α : Type} (x : Ex) (h : Hs) (env : Env) (f : α → Hs → RS) : (R.exc x h : R α).then env f = .exc x env h := rfl
@[simp] theorem R.then_stuck {α : Type} (env : Env) (f : α → Hs → RS) : (R.stuck : R α).then env f = .stuck := rfl
def RS.next' (r : RS) (f : Env → Hs → RS) : RS :=
  match r with
  | .next env h => f env h
  | r => r
@[simp] theorem RS.next_next (env : Env) (h : Hs) (f : Env → Hs → RS) : (RS.next env h).next' f = f env h := rfl
@[simp] theorem RS.next_ret (d : D) (h : Hs) (f : Env → Hs → RS) : (RS.ret d h).next' f = .ret d h := rfl
@[simp] theorem RS.next_brk (env : Env) (h : Hs) (f : Env → Hs → RS) : (RS.brk env h).next' f = .brk env h := rfl
@[simp] theorem RS.next_cont (env : Env) (h : Hs) (f : Env → Hs → RS) : (RS.cont env h).next' f = .cont env h := rfl
@[simp] theorem RS.next_exc (x : Ex) (env : Env) (h : Hs) (f : Env → Hs → RS) : (RS.exc x env h).next' f = .exc x env h := rfl
@[simp] theorem RS.next_stuck (f : Env → Hs → RS) : RS.stuck.next' f = .stuck := rfl
/-- an exception does not leave a clause here -/
def RS.noX (r : RS) : RS :=
  match r with
  | .exc _ _ _ => .stuck
  | r => r
def loopF (g : Gd) (f : D → Env → Hs → RS) : List D → Env → Hs → RS
  | [], env, h => if g.ok h then .next env h else .stuck
  | x :: xs, env, h => if g.ok h then (match f x env h with
    | .next e h => loopF g f xs e h
    | .cont e h => loopF g f xs e h
    | .brk e h => .next e h
    | r => r) else .stuck
def loopW (c : Env → Hs → R Bool) (f : Env → Hs → RS) : Nat → Env → Hs → RS
  | 0, _, _ => .stuck
  | n + 1, env, h => (c env h).then env fun b h => if b then (match f env h with
    | .next e h => loopW c f n e h
    | .cont e h => loopW c f n e h
    | .brk e h => .next e h
    | r => r) else .next env h

/-! ### the run -/
/-- what a body runs in: the defs by number, so many frames deeper; how much deeper it is; the module's constants, which class lies under which, the turns that a while may take -/
structure Ct where
  call : Nat → Nat → List D → Hs → R D
  off : Nat
  lamb : Nat → Env → Hs → R D
  consts : List D
  sub : Nat → Nat → Bool
  most : Nat
def enumD : Nat → List D → List D
  | _, [] => []
  | n, x :: xs => .tup [.int n, x] :: enumD (n + 1) xs
def zipD : List D → List D → List D
  | x :: xs, y :: ys => .tup [x, y] :: zipD xs ys
  | _, _ => []
def rangeD (lo : Int) : Nat → List D
  | 0 => []
  | n + 1 => .int lo :: rangeD (lo + 1) n
def strD (s : Str) : List D := s.cps.toList.map fun c => .str ⟨#[c]⟩
def okR (i : Int) : Bool := decide (i.natAbs < 2 ^ 62)
def range1 : D → Option (List D)
  | .int j => if okR j && decide (j.toNat ≤ sizeLine) then some (rangeD 0 j.toNat) else none
  | _ => none
def range2 : D → D → Option (List D)
  | .int i, .int j => if okR i && okR j && decide ((j - i).toNat ≤ sizeLine) then some (rangeD i (j - i).toNat) else none
  | _, _ => none
/-- what is walked where a value stands behind "in" -/
def walkD (h : Hs) (x : D) : Option (List D × Gd) :=
  match x with
  | .tup xs => some (xs, [])
  | .str s => if s.length ≤ sizeLine then some (strD s, []) else none
  | .ref k => match h[k]? with
    | some (.list xs) => some (xs, [(k, xs)])
    | some (.frz xs) => some (xs, [(k, xs)])
    | _ => none
  | _ => none
def zipO (h : Hs) (x y : D) : Option (List D × Gd) :=
  match x, y with
  | .tup xs, .tup ys => some (zipD xs ys, [])
  | .ref m, .ref n => match h[m]?, h[n]? with
    | some (.list xs), some (.list ys) => some (zipD xs ys, [(m, xs), (n, ys)])
    | _, _ => none
  | _, _ => none
/-- a list or a tuple that is walked -/
def seqO (h : Hs) (x : D) : Option (List D × Gd) :=
  match x with
  | .tup xs => some (xs, [])
  | .ref k => match h[k]? with
    | some (.list xs) => some (xs, [(k, xs)])
    | _ => none
  | _ => none
def zipT (x y : D) : Option (List D) :=
  match x, y with
  | .tup xs, .tup ys => some (zipD xs ys)
  | _, _ => none
/-- a list or a tuple as an argument -/
def seqD (h : Hs) (x : D) : Option (List D) :=
  match x with
  | .tup xs => some xs
  | .ref k => match h[k]? with
    | some (.list xs) => some xs
    | _ => none
  | _ => none
def listD (h : Hs) (x : D) : Option (List D) :=
  match x with
  | .ref k => match h[k]? with
    | some (.list xs) => some xs
    | _ => none
  | _ => none
def onR {α : Type} (r : R D) (f : D → Hs → Option α) : R α := r.bind fun d h => ofO (f d h) h

/-- is a lambda refused (by class m), nothing that stood changed? -/
def refused (c : Ct) (m : Nat) (env : Env) (h : Hs) (d : D) : Bool :=
  match d with
  | .clo l => (match c.lamb l env h with
    | .exc y h1 => c.sub y.cls m && Hs.pre h h1
    | _ => false)
  | _ => false

/-- a test -/
def tst (h : Hs) (r : R D) : R Bool := (gc h r).bind fun x h1 => ofO (truthD h1 x) h1
mutual
def evE : E → Ct → Env → Hs → R D
  | .var i, _, env, h => match env[i]? with
    | some (some d) => .ok d h
    | _ => .stuck
  | .lit d, _, _, h => .ok d h
  | .glob k, c, _, h => ofO c.consts[k]? h
  | .fnv k, _, _, h => .ok (.fn k) h
  | .lam l, _, _, h => .ok (.clo l) h
  | .noth x e, c, env, h => gcX h (match evE e { c with off := c.off + 2 } env h with
    | .ok _ h1 => .ok (.bool false) h1
    | .exc y h1 => if c.sub y.cls x then .ok (.bool true) h1 else .stuck
    | .stuck => .stuck)
  | .tup es, c, env, h => (evEs es c env h).bind fun xs h1 => .ok (.tup xs) h1
  | .new l, c, env, h => (evL l c env h).bind fun xs h1 => newC (.list xs) h1
  | .bin o a b, c, env, h => (evE a c env h).bind fun x h1 => (evE b c env h1).bind fun y h2 => o.run x y h2
  | .neg a, c, env, h => (evE a c env h).bind fun x h1 => match x with
    | .int i => .ok (.int (-i)) h1
    | _ => .stuck
  | .not a, c, env, h => (evE a c env h).bind fun x h1 => ofO ((truthD h1 x).map fun b => .bool (!b)) h1
  | .bop k es, c, env, h => evB k es c env h
  | .cmp o a b, c, env, h => (evE a c env h).bind fun x h1 => (evE b c env h1).bind fun y h2 => ofO ((o.run x y h2).map .bool) h2
  | .chain o p a b d, c, env, h => (evE a c env h).bind fun x h1 => (evE b c env h1).bind fun y h2 => (ofO (o.run x y h2) h2).bind fun t h2 =>
    if t then (evE d c env h2).bind fun z h3 => ofO ((p.run y z h3).map .bool) h3 else .ok (.bool false) h2
  | .ife t a b, c, env, h => (tst h (evE t c env h)).bind fun t h1 => if t then evE a c env h1 else evE b c env h1
  | .call k es, c, env, h => (evEs es c env h).bind fun xs h1 => c.call c.off k xs h1
  | .callv i es, c, env, h => match env[i]? with
    | some (some (.fn k)) => (evEs es c env h).bind fun xs h1 => c.call c.off k xs h1
    | _ => .stuck
  | .isi a t, c, env, h => (evE a c env h).bind fun x h1 => ofO ((t.is h1 x).map .bool) h1
  | .f1 f a, c, env, h => (evE a c env h).bind fun x h1 => ofO (f.run x h1) h1
  | .f2 f a b, c, env, h => (evE a c env h).bind fun x h1 => (evE b c env h1).bind fun y h2 => ofO (f.run x y) h2
  | .fl f it, c, env, h => (evA f it c env h).bind fun xs h1 => ofO (f.run xs) h1
  | .idx a b, c, env, h => (evE a c env h).bind fun x h1 => (evE b c env h1).bind fun y h2 => ofO (idxD h2 x y) h2
  | .sl a lo hi, c, env, h => (evE a c env h).bind fun x h1 => (evO lo c env h1).bind fun y h2 => (evO hi c env h2).bind fun z h3 => slD x y z h3
  | .rev a, c, env, h => (evE a c env h).bind fun x h1 => revD x h1
  | .meth m r es, c, env, h => (evE r c env h).bind fun x h1 => if m.recv x h1 then (evEs es c env h1).bind fun xs h2 => m.run x xs h2 else .stuck
def evO : O → Ct → Env → Hs → R (Option Int)
  | .none, _, _, h => .ok none h
  | .some e, c, env, h => (evE e c env h).bind fun d h => match d with
    | .int i => .ok (some i) h
    | _ => .stuck
def evEs : Es → Ct → Env → Hs → R (List D)
  | .nil, _, _, h => .ok [] h
  | .cons e es, c, env, h => (evE e c env h).bind fun x h1 => (evEs es c env h1).bind fun xs h2 => .ok (x :: xs) h2
/-- and, or -/
def evB (k : Bool) : Es → Ct → Env → Hs → R D
  | .nil, _, _, _ => .stuck
  | .cons e .nil, c, env, h => evE e c env h
  | .cons e (.cons d es), c, env, h => (evE e c env h).bind fun x h1 => (ofO (truthD h1 x) h1).bind fun b h1 => if b == k then evB k (.cons d es) c env h1 else .ok x h1
/-- what a built-in is given: a list or a tuple, or a list just made -/
def evA (f : FL) : It → Ct → Env → Hs → R (List D)
  | .e a, c, env, h => (evE a c env h).bind fun x h1 => match f with
    | .tuple => ofO (seqD h1 x) h1
    | _ => ofO (listD h1 x) h1
  | .l l, c, env, h => evL l c env h
  | _, _, _, _ => .stuck
def evL : L → Ct → Env → Hs → R (List D)
  | .disp es, c, env, h => evEs es c env h
  | .comp e t it cs, c, env, h => (evI it c env h).bind fun p h1 =>
    loopC p.2 (fun x h => (ofO (t.bind h x (wipeE env t.slots)) h).bind fun env h => (evC cs c env h).bind fun b h => if b then (gc h (evE e c env h)).bind fun y h => .ok (some y) h else .ok none h) p.1 h1
  | .comp2 e t it cs t1 it1 cs1, c, env, h => (evI it c env h).bind fun p h1 =>
    loopCC p.2 (fun x h => (ofO (t.bind h x (wipeE env (t.slots ++ t1.slots))) h).bind fun env h => (evC cs c env h).bind fun b h => if b then
      (evI it1 c env h).bind fun p1 h2 =>
        loopC p1.2 (fun x h => (ofO (t1.bind h x (wipeE env t1.slots)) h).bind fun env h => (evC cs1 c env h).bind fun b h => if b then (gc h (evE e c env h)).bind fun y h => .ok (some y) h else .ok none h) p1.1 h2
      else .ok [] h) p.1 h1
  | .srt _, _, _, _ => .stuck
  | .lof it, c, env, h => (evI it c env h).bind fun p h1 => .ok p.1 h1
  | .acts i m, c, env, h => match env[i]? with
    | some (some (.ref n)) => match h[n]? with
      | some (.list ds) => if ds.all (refused c m env h) then .ok [] h else .stuck
      | _ => .stuck
    | _ => .stuck
/-- the tests of a comprehension -/
def evC : Es → Ct → Env → Hs → R Bool
  | .nil, _, _, h => .ok true h
  | .cons e .nil, c, env, h => tst h (evE e c env h)
  | _, _, _, _ => .stuck
/-- what a loop walks -/
def evI : It → Ct → Env → Hs → R (List D × Gd)
  | .e a, c, env, h => (evE a c env h).bind fun x h1 => ofO (walkD h1 x) h1
  | .l l, c, env, h => (evL l c env h).bind fun xs h1 => .ok (xs, []) h1
  | .range1 a, c, env, h => (evE a c env h).bind fun x h1 => ofO ((range1 x).map fun xs => (xs, [])) h1
  | .range2 a b, c, env, h => (evE a c env h).bind fun x h1 => (evE b c env h1).bind fun y h2 => ofO ((range2 x y).map fun xs => (xs, [])) h2
  | .enum a, c, env, h => (evE a c env h).bind fun x h1 => ofO ((seqO h1 x).map fun p => (enumD 0 p.1, p.2)) h1
  | .enumL l, c, env, h => (evL l c env h).bind fun xs h1 => .ok (enumD 0 xs, []) h1
  | .enumZ a b, c, env, h => (evE a c env h).bind fun x h1 => (evE b c env h1).bind fun y h2 => ofO ((zipT x y).map fun xs => (enumD 0 xs, [])) h2
  | .zip a b, c, env, h => (evE a c env h).bind fun x h1 => (evE b c env h1).bind fun y h2 => ofO (zipO h2 x y) h2
end
mutual
def evS : S → Ct → Env → Hs → RS
  | .assign t e, c, env, h => (gc h (evE e c env h)).then env fun d h => match t.bind h d env with
    | some env => .next env h
    | none => .stuck
  | .asub o i e, c, env, h => (evE e c env h).then env fun v h => (evE o c env h).then env fun x h => (evE i c env h).then env fun y h => match setD x y v h with
    | some h => .next env h
    | none => .stuck
  | .aug i op e, c, env, h => match env[i]? with
    | some (some x) => (gc h (evE e c env h)).then env fun y h => match op.irun x y with
      | some d => .next (env.set i (some d)) h
      | none => .stuck
    | _ => .stuck
  | .augsub o i op e, c, env, h => (evE o c env h).then env fun x h => (evE i c env h).then env fun y h => (ofO (gidxD h x y) h).then env fun z h =>
    (evE e c env h).then env fun v h => (ofO (op.irun z v) h).then env fun v h => match setD x y v h with
      | some h => .next env h
      | none => .stuck
  | .expr e, c, env, h => (gc h (evE e c env h)).then env fun _ h => .next env h
  | .ret e, c, env, h => (evE e c env h).then env fun d h => .ret d h
  | .retn, _, _, h => .ret .none h
  | .ite t a b, c, env, h => (tst h (evE t c env h)).then env fun t h => if t then evSs a c env h else evSs b c env h
  | .for_ t it b, c, env, h => (evI it c env h).then env fun p h => loopF p.2 (fun x env h => match t.bind h x env with
    | some env => evSs b c env h
    | none => .stuck) p.1 env h
  | .while_ t b, c, env, h => loopW (fun env h => tst h (evE t c env h)) (fun env h => evSs b c env h) c.most env h
  | .brk, _, env, h => .brk env h
  | .cont, _, env, h => .cont env h
  | .pass, _, env, h => .next env h
  | .raise k es, c, env, h => match es with
    | .nil => .exc ⟨k, []⟩ env h
    | _ => .stuck
  | .try_ b hd, c, env, h => match evSs b c env h with
    | .exc x env h => evH hd x c env h
    | r => r
def evSs : Ss → Ct → Env → Hs → RS
  | .nil, _, env, h => .next env h
  | .cons s ss, c, env, h => (evS s c env h).next' fun env h => evSs ss c env h
def evH : Hd → Ex → Ct → Env → Hs → RS
  | .nil, x, _, env, h => .exc x env h
  | .cons k v b r, x, c, env, h => if c.sub x.cls k then (match v with
    | none => (evSs b c env h).noX
    | some _ => .stuck) else evH r x c env h
end

/-! ### a program -/
instance : Inhabited Ss := ⟨.nil⟩
structure Fd where
  name : Str
  np : Nat
  names : List Str
  lam : Bool
  body : Ss
  deriving Inhabited
structure Pg where
  fns : List Fd
  con : List (Str × D)
  cls : List Str
  blt : List Str
  ask : List (Nat × Nat)
  lams : List E
  sub : Nat → Nat → Bool
  most : Nat
def endS (r : RS) : R D :=
  match r with
  | .next _ h => .ok .none h
  | .ret d h => .ok d h
  | .exc x _ h => .exc x h
  | _ => .stuck
/-- what a body runs in, lambdas left out; .. with the lambdas of the law's frame -/
def Pg.ct0 (M : Pg) (call : Nat → Nat → List D → Hs → R D) (off : Nat) : Ct := ⟨call, off, fun _ _ _ => .stuck, M.con.map (·.2), M.sub, M.most⟩
def Pg.ct (M : Pg) (call : Nat → Nat → List D → Hs → R D) : Ct := { M.ct0 call 0 with lamb := fun l env h => match M.lams[l]? with
  | some e => evE e (M.ct0 call 2) env h
  | none => .stuck }
def runF (M : Pg) (call : Nat → Nat → List D → Hs → R D) (k : Nat) (as : List D) (h : Hs) : R D :=
  match M.fns[k]? with
  | some f => if as.length = f.np then gcX h (endS (evSs f.body (M.ct call) (as.map some ++ List.replicate (f.names.length - f.np) none) h)) else .stuck
  | none => .stuck
/-- def k called with so many frames to spare, so many of them gone already -/
def callF (M : Pg) : Nat → Nat → Nat → List D → Hs → R D
  | 0, _, _, _, _ => .stuck
  | n + 1, 0, k, as, h => if n < 2 then .stuck else runF M (callF M n) k as h
  | n + 1, o + 1, k, as, h => callF M n o k as h
end MI
end
section
/-! MB: how the mini interpreter's states lie in the abstract heap; readings out of its runs. -/
namespace MI
open PySem PySem.Spec PyProof.Rows L2

/-- K: the written part; fa, ca: where the defs and classes stand; nx: so many classes; nf: so many defs; T: the tables of code objects; clo: what is true at a lambda's address; cq: its full name -/
structure Rc where
  K : PySem.W.Frag
  fa : Nat → Addr
  ca : Nat → Addr
  nx : Nat
  nf : Nat
  T : List (Addr × Str)
  clo : Nat → Addr → Value → Addr → Value → Heap → Prop
  cq : Str

mutual
def RD (rc : Rc) (as : List Addr) (H : Hp) : D → V → Prop
  | .none, v => v = .non
  | .bool b, v => v = .bl b
  | .int i, v => v = .int i
  | .str s, v => v = .str s
  | .tup xs, v => ∃ a vs, v = .ref a ∧ SqT rc.K H a vs ∧ RDs rc as H xs vs
  | .ref n, v => ∃ a, v = .ref a ∧ as[n]? = some a
  | .fn k, v => v = .ref (rc.fa k) ∧ k < rc.nf
  | .clo l, v => ∃ a pm c ct, v = .ref a ∧ a ∉ as ∧ c ∉ as ∧ H a = some (.ext (rc.clo l a pm c ct)) ∧ H c = some (LamX.CodeO c rc.cq)
def RDs (rc : Rc) (as : List Addr) (H : Hp) : List D → List V → Prop
  | [], vs => vs = []
  | x :: xs, vs => ∃ v r, vs = v :: r ∧ RD rc as H x v ∧ RDs rc as H xs r
end
/-- what may stand at a cell's address -/
def cellish : HO → Prop
  | .lst _ => True
  | .frz _ (.lst _) => True
  | .ext _ => True
  | .ins _ _ _ => True
  | .dK _ => True
  | .dT _ => True
  | _ => False
def MOk (rc : Rc) (as : List Addr) (H : Hp) (a : Addr) : MO → Prop
  | .list xs => ∃ vs, H a = some (.lst vs) ∧ RDs rc as H xs vs
  | .frz xs => ∃ vs o, H a = some (.frz o (.lst vs)) ∧ RDs rc as H xs vs
  | _ => False
structure SRel (rc : Rc) (as : List Addr) (h : Hs) (H : Hp) : Prop where
  tab : LamX.Tabs rc.T H
  len : as.length = h.length
  nd : as.Nodup
  ok : ∀ (n : Nat) (mo : MO) (a : Addr), h[n]? = some mo → as[n]? = some a → MOk rc as H a mo
/-- nothing is at b, or a table of code objects -/
abbrev Nw (H : Hp) (b : Addr) : Prop := ∀ o, H b = some o → ∃ ps, o = .tbl ps
theorem Nw.of {H : Hp} {b : Addr} (h : H b = none) : Nw H b := fun o e => by rw [h] at e; cases e
/-- what a run leaves of what stood -/
structure Stp (as : List Addr) (H : Hp) (as' : List Addr) (H' : Hp) : Prop where
  pre : ∃ z, as' = as ++ z
  new : ∀ b ∈ as', b ∈ as ∨ Nw H b
  ext : ∀ b o, H b = some o → (b ∉ as ∨ ¬ cellish o) → (∀ ps, o ≠ .tbl ps) → H' b = some o
def ERel (rc : Rc) (as : List Addr) (H : Hp) (env : Env) (σ : List (Option V)) : Prop :=
  env.length ≤ σ.length ∧ ∀ (i : Nat) (d : D), env[i]? = some (some d) → ∃ v, σ[i]? = some (some v) ∧ RD rc as H d v

section
variable {rc : Rc} {as as1 as2 : List Addr} {H H1 H2 : Hp} {h h1 : Hs}
theorem SRel.at (S : SRel rc as h H) {n : Nat} {mo : MO} (e : h[n]? = some mo) : ∃ a, as[n]? = some a ∧ MOk rc as H a mo := by
  have hn : n < as.length := by
    rw [S.len]
    exact (List.getElem?_eq_some_iff.mp e).1
  exact ⟨as[n], List.getElem?_eq_getElem hn, S.ok n mo _ e (List.getElem?_eq_getElem hn)⟩
theorem MOk.cellish {a : Addr} {mo : MO} (m : MOk rc as H a mo) : ∃ o, H a = some o ∧ cellish o := by
  cases mo with
  | list xs =>
    obtain ⟨vs, e', _⟩ := m
    exact ⟨_, e', trivial⟩
  | frz xs =>
    obtain ⟨vs, o, e', _⟩ := m
    exact ⟨_, e', trivial⟩
  | dict _ => exact m.elim
  | inst _ _ => exact m.elim
theorem SRel.cell (S : SRel rc as h H) {a : Addr} (ha : a ∈ as) : ∃ o, H a = some o ∧ MI.cellish o := by
  obtain ⟨n, hn, e⟩ := List.getElem_of_mem ha
  have hn' : n < h.length := by
    rw [← S.len]
    exact hn
  exact (S.ok n _ a (List.getElem?_eq_getElem hn') (by rw [List.getElem?_eq_getElem hn, e])).cellish
theorem SRel.notCell (S : SRel rc as h H) {a : Addr} {o : HO} (e : H a = some o) (n : ¬ MI.cellish o) : a ∉ as := fun ha => by
  obtain ⟨u, e', c⟩ := S.cell ha
  rw [e] at e'
  cases e'
  exact n c
theorem SRel.free (S : SRel rc as h H) {a : Addr} (e : H a = none) : a ∉ as := fun ha => by
  obtain ⟨u, e', c⟩ := S.cell ha
  rw [e] at e'
  cases e'
theorem Stp.refl : Stp as H as H := ⟨⟨[], by simp⟩, fun _ hb => .inl hb, fun _ _ e _ _ => e⟩
theorem Stp.trans (a : Stp as H as1 H1) (b : Stp as1 H1 as2 H2) : Stp as H as2 H2 := by
  have nw : ∀ c, c ∈ as1 → c ∉ as → Nw H c := fun c h1 h2 => (a.new c h1).resolve_left h2
  refine ⟨?_, fun c hc => ?_, fun c o e hn ht => ?_⟩
  · obtain ⟨z, e⟩ := a.pre
    obtain ⟨y, e'⟩ := b.pre
    exact ⟨z ++ y, by rw [e', e, List.append_assoc]⟩
  · rcases b.new c hc with h | h
    · exact a.new c h
    · by_cases hm : c ∈ as
      · exact .inl hm
      · refine .inr fun o q => ?_
        by_cases ht : ∃ ps, o = .tbl ps
        · exact ht
        · exact absurd (h o (a.ext c o q (.inl hm) fun ps e => ht ⟨ps, e⟩)) ht
  · refine b.ext c o (a.ext c o e hn ht) (hn.imp (fun hn hm => ?_) id) ht
    obtain ⟨ps, z⟩ := nw c hm hn o e
    exact ht ps z
/-- what values lean on: tuples, lambdas; lists may be written -/
structure Kp (as : List Addr) (H : Hp) (as' : List Addr) (H' : Hp) : Prop where
  pre : ∃ z, as' = as ++ z
  clo : ∀ b ∈ as', b ∈ as ∨ ∀ φ, H b ≠ some (.ext φ)
  ext : ∀ b o, H b = some o → (∀ xs, o ≠ .lst xs) → (b ∉ as ∨ ¬ MI.cellish o) → (∀ ps, o ≠ .tbl ps) → H' b = some o
theorem Stp.kp (p : Stp as H as1 H1) : Kp as H as1 H1 :=
  ⟨p.pre, fun b hb => (p.new b hb).imp id (fun n φ e => by obtain ⟨ps, z⟩ := n _ e; cases z), fun b o e _ hn ht => p.ext b o e hn ht⟩
theorem Kp.sqT (p : Kp as H as1 H1) {a : Addr} {vs : List V} (q : SqT rc.K H a vs) : SqT rc.K H1 a vs := by
  rcases q with (q | ⟨o, q⟩) | q
  · exact .inl (.inl (p.ext a _ q (fun xs e => nomatch e) (.inr fun z => z) fun ps e => nomatch e))
  · exact .inl (.inr ⟨o, p.ext a _ q (fun xs e => nomatch e) (.inr fun z => z) fun ps e => nomatch e⟩)
  · exact .inr q
theorem Kp.at (p : Kp as H as1 H1) {n : Nat} {a : Addr} (e : as[n]? = some a) : as1[n]? = some a := by
  obtain ⟨z, rfl⟩ := p.pre
  rw [List.getElem?_append_left (List.getElem?_eq_some_iff.mp e).1]
  exact e
mutual
theorem RD.mono' (p : Kp as H as1 H1) : ∀ {d : D} {v : V}, RD rc as H d v → RD rc as1 H1 d v
  | .none, v, r => by simpa [RD] using r
  | .bool b, v, r => by simpa [RD] using r
  | .int i, v, r => by simpa [RD] using r
  | .str s, v, r => by simpa [RD] using r
  | .tup xs, v, r => by
    simp only [RD] at r ⊢
    obtain ⟨a, vs, e, q, rs⟩ := r
    exact ⟨a, vs, e, p.sqT q, RDs.mono' p rs⟩
  | .ref n, v, r => by
    simp only [RD] at r ⊢
    obtain ⟨a, e, q⟩ := r
    exact ⟨a, e, p.at q⟩
  | .fn k, v, r => by simpa [RD] using r
  | .clo l, v, r => by
    simp only [RD] at r ⊢
    obtain ⟨a, pm, c, ct, e, na, nc, q1, q2⟩ := r
    have out : ∀ b φ, H b = some (.ext φ) → b ∉ as → b ∉ as1 := fun b φ e n hm => (p.clo b hm).elim n fun z => z φ e
    exact ⟨a, pm, c, ct, e, out a _ q1 na, out c _ q2 nc, p.ext a _ q1 (fun xs z => nomatch z) (.inl na) (fun ps z => nomatch z), p.ext c _ q2 (fun xs z => nomatch z) (.inl nc) (fun ps z => nomatch z)⟩
theorem RDs.mono' (p : Kp as H as1 H1) : ∀ {ds : List D} {vs : List V}, RDs rc as H ds vs → RDs rc as1 H1 ds vs
  | [], vs, r => by simpa [RDs] using r
  | x :: xs, vs, r => by
    simp only [RDs] at r ⊢
    obtain ⟨v, rr, e, h1, h2⟩ := r
    exact ⟨v, rr, e, RD.mono' p h1, RDs.mono' p h2⟩
end
theorem RD.mono (S : SRel rc as h H) (p : Stp as H as1 H1) {d : D} {v : V} (r : RD rc as H d v) : RD rc as1 H1 d v := r.mono' p.kp
theorem RDs.mono (S : SRel rc as h H) (p : Stp as H as1 H1) {ds : List D} {vs : List V} (r : RDs rc as H ds vs) : RDs rc as1 H1 ds vs := r.mono' p.kp
theorem RDs.length : ∀ {ds : List D} {vs : List V}, RDs rc as H ds vs → ds.length = vs.length
  | [], vs, r => by
    simp only [RDs] at r
    rw [r]
    rfl
  | x :: xs, vs, r => by
    simp only [RDs] at r
    obtain ⟨v, rr, e, _, h2⟩ := r
    rw [e, List.length_cons, List.length_cons, RDs.length h2]
theorem RDs.get : ∀ {ds : List D} {vs : List V} {i : Nat} {d : D}, RDs rc as H ds vs → ds[i]? = some d → ∃ v, vs[i]? = some v ∧ RD rc as H d v
  | [], _, _, _, _, e => by simp at e
  | x :: xs, vs, i, d, r, e => by
    simp only [RDs] at r
    obtain ⟨v, rr, e', h1, h2⟩ := r
    subst e'
    cases i with
    | zero =>
      simp at e
      subst e
      exact ⟨v, rfl, h1⟩
    | succ i =>
      obtain ⟨u, e1, e2⟩ := RDs.get (i := i) h2 (by simpa using e)
      exact ⟨u, by simpa using e1, e2⟩
theorem RDs.cons {x : D} {xs : List D} {v : V} {vs : List V} (a : RD rc as H x v) (b : RDs rc as H xs vs) : RDs rc as H (x :: xs) (v :: vs) := by
  simp only [RDs]
  exact ⟨v, vs, rfl, a, b⟩
theorem RDs.nil : RDs rc as H [] [] := by simp [RDs]
theorem RDs.app : ∀ {xs ys : List D} {vs us : List V}, RDs rc as H xs vs → RDs rc as H ys us → RDs rc as H (xs ++ ys) (vs ++ us)
  | [], ys, vs, us, a, b => by
    simp only [RDs] at a
    subst a
    simpa using b
  | x :: xs, ys, vs, us, a, b => by
    simp only [RDs] at a
    obtain ⟨v, r, e, h1, h2⟩ := a
    subst e
    exact .cons h1 (RDs.app h2 b)
theorem RDs.take : ∀ {xs : List D} {vs : List V} (n : Nat), RDs rc as H xs vs → RDs rc as H (xs.take n) (vs.take n)
  | [], vs, n, a => by
    simp only [RDs] at a
    subst a
    simp [RDs]
  | x :: xs, vs, 0, a => by simp [RDs]
  | x :: xs, vs, n + 1, a => by
    simp only [RDs] at a
    obtain ⟨v, r, e, h1, h2⟩ := a
    subst e
    exact .cons h1 (RDs.take n h2)
theorem RDs.drop : ∀ {xs : List D} {vs : List V} (n : Nat), RDs rc as H xs vs → RDs rc as H (xs.drop n) (vs.drop n)
  | [], vs, n, a => by
    simp only [RDs] at a
    subst a
    simp [RDs]
  | x :: xs, vs, 0, a => a
  | x :: xs, vs, n + 1, a => by
    simp only [RDs] at a
    obtain ⟨v, r, e, h1, h2⟩ := a
    subst e
    exact RDs.drop n h2
theorem RDs.set : ∀ {xs : List D} {vs : List V} (n : Nat) {d : D} {v : V}, RDs rc as H xs vs → RD rc as H d v → RDs rc as H (xs.set n d) (vs.set n v)
  | [], vs, n, d, v, a, _ => by
    simp only [RDs] at a
    subst a
    simp [RDs]
  | x :: xs, vs, 0, d, v, a, b => by
    simp only [RDs] at a
    obtain ⟨u, r, e, h1, h2⟩ := a
    subst e
    exact .cons b h2
  | x :: xs, vs, n + 1, d, v, a, b => by
    simp only [RDs] at a
    obtain ⟨u, r, e, h1, h2⟩ := a
    subst e
    exact .cons h1 (RDs.set n h2 b)
theorem RDs.reverse : ∀ {xs : List D} {vs : List V}, RDs rc as H xs vs → RDs rc as H xs.reverse vs.reverse
  | [], vs, a => by
    simp only [RDs] at a
    subst a
    simp [RDs]
  | x :: xs, vs, a => by
    simp only [RDs] at a
    obtain ⟨u, r, e, h1, h2⟩ := a
    subst e
    rw [List.reverse_cons, List.reverse_cons]
    exact RDs.app (RDs.reverse h2) (.cons h1 .nil)
theorem ERel.mono' {env : Env} {σ : List (Option V)} (p : Kp as H as1 H1) (e : ERel rc as H env σ) : ERel rc as1 H1 env σ := ⟨e.1, fun i d q =>
  let ⟨v, a, b⟩ := e.2 i d q
  ⟨v, a, b.mono' p⟩⟩
theorem ERel.mono {env : Env} {σ : List (Option V)} (S : SRel rc as h H) (p : Stp as H as1 H1) (e : ERel rc as H env σ) : ERel rc as1 H1 env σ := e.mono' p.kp
theorem MOk.mono' (p : Kp as H as1 H1) {a : Addr} {mo : MO} (ha : H1 a = H a) (m : MOk rc as H a mo) : MOk rc as1 H1 a mo := by
  cases mo with
  | list xs =>
    obtain ⟨vs, e, r⟩ := m
    exact ⟨vs, ha.trans e, r.mono' p⟩
  | frz xs =>
    obtain ⟨vs, o, e, r⟩ := m
    exact ⟨vs, o, ha.trans e, r.mono' p⟩
  | dict _ => exact m.elim
  | inst _ _ => exact m.elim
theorem MOk.mono (S : SRel rc as h H) (p : Stp as H as1 H1) {a : Addr} {mo : MO} (ha : H1 a = H a) (m : MOk rc as H a mo) : MOk rc as1 H1 a mo := m.mono' p.kp ha
/-- tables where no table or code is touched -/
theorem tabs_keep {T : List (Addr × Str)} (t : LamX.Tabs T H) (e : ∀ b o, H b = some o → (∀ xs, o ≠ .lst xs) → H1 b = some o) : LamX.Tabs T H1 := fun p hp => by
  obtain ⟨ps, h1, h2, h3⟩ := t p hp
  refine ⟨ps, e p.1 (.tbl ps) h1 (fun _ z => nomatch z), h2, fun pos cv hc => ?_⟩
  obtain ⟨c, e1, e2⟩ := h3 pos cv hc
  exact ⟨c, e1, e c (LamX.CodeO c p.2) e2 (fun _ z => by unfold LamX.CodeO at z; exact nomatch z)⟩
theorem tabs_new {T : List (Addr × Str)} (t : LamX.Tabs T H) {p : Addr} {o : HO} (hp : H p = none) : LamX.Tabs T (upd H p o) := tabs_keep t fun b u e _ => by rw [upd_ne (ne_of_none e hp)]; exact e
theorem tabs_set {T : List (Addr × Str)} (t : LamX.Tabs T H) {p : Addr} {xs ys : List V} (hp : H p = some (.lst xs)) : LamX.Tabs T (upd H p (.lst ys)) := tabs_keep t fun b u e n => by
  rw [upd_ne]
  · exact e
  · rintro rfl
    rw [hp] at e
    exact n _ (Option.some.inj e).symm
/-- nothing of the cells is changed -/
theorem SRel.keep' (S : SRel rc as h H) (p : Kp as H as H1) (t : LamX.Tabs rc.T H1) (e : ∀ a ∈ as, H1 a = H a) : SRel rc as h H1 :=
  ⟨t, S.len, S.nd, fun n mo a q1 q2 => (S.ok n mo a q1 q2).mono' p (e a (List.mem_of_getElem? q2))⟩
theorem SRel.keep (S : SRel rc as h H) (p : Stp as H as H1) (t : LamX.Tabs rc.T H1) (e : ∀ a ∈ as, H1 a = H a) : SRel rc as h H1 := S.keep' p.kp t e
/-- a new object that is no cell -/
theorem Stp.laid {q : Addr} {o : HO} (hq : H q = none) : Stp as H as (upd H q o) :=
  ⟨⟨[], by simp⟩, fun _ hb => .inl hb, fun b u e _ _ => by rw [upd_ne (ne_of_none e hq)]; exact e⟩
end
end MI
end
section
/-! MC: readings out of runs; the rules of expressions. -/
namespace MI
open PySem PySem.Spec PyProof.Rows L2
abbrev Sg := List (Option V)
/-- an exception: its class, its fields -/
def XRel (rc : Rc) (as : List Addr) (H : Hp) (x : Ex) (cls : Value) (dd : Option Addr) : Prop :=
  cls = .ref (rc.ca x.cls) ∧ x.cls < rc.nx ∧ x.fs = []
def Post (rc : Rc) (W : WX) (σ : Sg) (as : List Addr) (H : Hp) {α : Type} (P : α → List Addr → Hs → Hp → Prop) (r : R α) : Prop :=
  match r with
  | .ok d h' => ∀ as' H', Stp as H as' H' → SRel rc as' h' H' → P d as' h' H'
  | .exc x h' => ∀ as' H' cls dd, Stp as H as' H' → SRel rc as' h' H' → XRel rc as' H' x cls dd → W cls dd σ H'
  | .stuck => False
def tE (rc : Rc) (W : WX) (f : Env → Hs → R D) : TE := fun σ H Q =>
  ∃ as env h, ERel rc as H env σ ∧ SRel rc as h H ∧ Post rc W σ as H (fun d as' _ H' => ∀ v, RD rc as' H' d v → Q v H') (f env h)
def tT (rc : Rc) (W : WX) (f : Env → Hs → R Bool) : TT := fun σ H Q =>
  ∃ as env h, ERel rc as H env σ ∧ SRel rc as h H ∧ Post rc W σ as H (fun b _ _ H' => Q b H') (f env h)
def tA (rc : Rc) (W : WX) (f : Env → Hs → R (List D)) : TA := fun σ H Q =>
  ∃ as env h, ERel rc as H env σ ∧ SRel rc as h H ∧ Post rc W σ as H (fun ds as' _ H' => ∀ vs, RDs rc as' H' ds vs → Q vs H') (f env h)

section
variable {rc : Rc} {W : WX} {σ : Sg} {as as1 : List Addr} {H H1 : Hp} {h : Hs} {α β : Type}
theorem Post.imp {P P' : α → List Addr → Hs → Hp → Prop} {r : R α} (p : Post rc W σ as H P r) (k : ∀ d as' h' H', Stp as H as' H' → SRel rc as' h' H' → P d as' h' H' → P' d as' h' H') : Post rc W σ as H P' r := by
  cases r with
  | ok d h' => exact fun as' H' s r => k d as' h' H' s r (p as' H' s r)
  | exc x h' => exact p
  | stuck => exact p
theorem Post.from {P : α → List Addr → Hs → Hp → Prop} {r : R α} (s : Stp as H as1 H1) (p : Post rc W σ as H P r) : Post rc W σ as1 H1 P r := by
  cases r with
  | ok d h' => exact fun as' H' s' r => p as' H' (s.trans s') r
  | exc x h' => exact fun as' H' cls dd s' r => p as' H' cls dd (s.trans s') r
  | stuck => exact p
theorem Post.bind {P : β → List Addr → Hs → Hp → Prop} {r : R α} {g : α → Hs → R β} (p : Post rc W σ as H P (r.bind g)) :
    Post rc W σ as H (fun d as1 h1 H1 => Post rc W σ as1 H1 P (g d h1)) r := by
  cases r with
  | ok d h' => exact fun as1 H1 s r => Post.from s p
  | exc x h' => exact p
  | stuck => exact p
theorem Post.ok {P : α → List Addr → Hs → Hp → Prop} {d : α} (S : SRel rc as h H) (p : Post rc W σ as H P (.ok d h)) : P d as h H := p as H .refl S
theorem Post.ofO {P : α → List Addr → Hs → Hp → Prop} {o : Option α} (S : SRel rc as h H) (p : Post rc W σ as H P (ofO o h)) : ∃ d, o = some d ∧ P d as h H := by
  cases o with
  | none => exact p.elim
  | some d => exact ⟨d, rfl, p as H .refl S⟩
theorem Post.ofO' {P : α → List Addr → Hs → Hp → Prop} {o : Option α} (S : SRel rc as h H) (p : Post rc W σ as H P (MI.ofO o h)) : ∃ d, o = some d ∧ ∀ as' H', Stp as H as' H' → SRel rc as' h H' → P d as' h H' := by
  cases o with
  | none => exact p.elim
  | some d => exact ⟨d, rfl, p⟩
end

theorem _root_.L2.PE.imp {X : Cx} {e : Expr} {t t' : TE} (p : PE X e t) (k : ∀ σ H Q, t' σ H Q → t σ H Q) : PE X e t' := ⟨fun pins s σ H Q I h => p.run pins s σ H Q I (k σ H Q h)⟩
theorem _root_.L2.PT.imp {X : Cx} {e : Expr} {t t' : TT} (p : PT X e t) (k : ∀ σ H Q, t' σ H Q → t σ H Q) : PT X e t' := ⟨fun pins s σ H Q I h => p.run pins s σ H Q I (k σ H Q h)⟩
theorem _root_.L2.PA.imp {X : Cx} {es : List Expr} {t t' : TA} (p : PA X es t) (k : ∀ σ H Q, t' σ H Q → t σ H Q) : PA X es t' := ⟨fun pos pins s σ H Q I h => p.run pos pins s σ H Q I (k σ H Q h)⟩
/-- the rule of a built-in operation on two values -/
def r2 (rc : Rc) (f : D → D → Hs → R D) : R2 := fun x y H Q =>
  ∃ as h d e, SRel rc as h H ∧ RD rc as H d x ∧ RD rc as H e y ∧ Post rc (fun _ _ _ _ => False) [] as H (fun d as' _ H' => ∀ v, RD rc as' H' d v → Q v H') (f d e h)
theorem Post.lift {rc : Rc} {W : WX} {σ : Sg} {as : List Addr} {H : Hp} {α : Type} {P : α → List Addr → Hs → Hp → Prop} {r : R α} (n : ∀ x h, r ≠ .exc x h) (p : Post rc W σ as H P r) : Post rc (fun _ _ _ _ => False) [] as H P r := by
  cases r with
  | ok d h' => exact p
  | exc x h' => exact absurd rfl (n x h')
  | stuck => exact p
section
variable {X : Cx} {rc : Rc} {W : WX} {a b c : Expr} {pos : Pos} {fa fb fc : Env → Hs → R D}
/-- two expressions, then an operation -/
theorem e_bin {op : Operator} {f : D → D → Hs → R D} (ho : OpR X (binaryOp op) (r2 rc f)) (nx : ∀ x y h e h', f x y h ≠ .exc e h') (ha : PE X a (tE rc W fa)) (hb : PE X b (tE rc W fb)) :
    PE X (.BinOp a op b pos) (tE rc W fun env h => (fa env h).bind fun x h1 => (fb env h1).bind fun y h2 => f x y h2) := by
  refine (pe_op ho ha hb).imp ?_
  rintro σ H Q ⟨as, env, h, E, S, p⟩
  refine ⟨as, env, h, E, S, p.bind.imp fun x as1 h1 H1 s1 S1 p1 v rx => ?_⟩
  refine ⟨as1, env, h1, E.mono S s1, S1, p1.bind.imp fun y as2 h2 H2 s2 S2 p2 u ry => ?_⟩
  exact ⟨as2, h2, x, y, S2, rx.mono S1 s2, ry, p2.lift fun e h' => nx x y h2 e h'⟩
theorem e_un {op : UnaryOp} {f : D → Hs → Option D} (ho : UnR X (unaryOp op) (fun x H Q => ∃ as h d e, SRel rc as h H ∧ RD rc as H d x ∧ f d h = some e ∧ ∀ v, RD rc as H e v → Q v H)) (ha : PE X a (tE rc W fa)) :
    PE X (.UnaryOp op a pos) (tE rc W fun env h => (fa env h).bind fun x h1 => ofO (f x h1) h1) := by
  refine (pe_un ho ha).imp ?_
  rintro σ H Q ⟨as, env, h, E, S, p⟩
  refine ⟨as, env, h, E, S, p.bind.imp fun x as1 h1 H1 s1 S1 p1 v rx => ?_⟩
  obtain ⟨e, he, k⟩ := p1.ofO S1
  exact ⟨as1, h1, x, e, S1, rx, he, k⟩
theorem e_var {i : Nat} {x : Str} (hN : X.N[i]? = some x) (hv : Vis X.env.scope x) (hd : (x == ("__debug__" : Str)) = false) (hcd : (x == ("__classdict__" : Str)) = false) {k : Ct} :
    PE X (.Name x pos) (tE rc W (evE (.var i) k)) := by
  refine (pe_var hN hv hd hcd).imp ?_
  rintro σ H Q ⟨as, env, h, E, S, p⟩
  simp only [evE] at p
  split at p
  · rename_i d hd
    obtain ⟨v, e, r⟩ := E.2 i d hd
    exact ⟨v, e, p.ok S v r⟩
  · exact p.elim
end

/-! ### laying, writing -/
section
variable {rc : Rc} {as : List Addr} {H : Hp} {h : Hs} {ds es : List D} {vs us : List V}
theorem newTup (S : SRel rc as h H) (r : RDs rc as H ds vs) {p : Addr} (hp : H p = none) :
    Stp as H as (upd H p (.tup vs)) ∧ SRel rc as h (upd H p (.tup vs)) ∧ RD rc as (upd H p (.tup vs)) (.tup ds) (.ref p) := by
  have s : Stp as H as (upd H p (.tup vs)) := .laid hp
  refine ⟨s, S.keep s (tabs_new S.tab hp) fun a ha => ?_, ?_⟩
  · obtain ⟨o, e, _⟩ := S.cell ha
    exact upd_ne (ne_of_none e hp)
  · simp only [RD]
    exact ⟨p, vs, rfl, .inl (.inl upd_same), r.mono S s⟩
/-- an object that is no cell is laid -/
theorem newObj (S : SRel rc as h H) {o : HO} {p : Addr} (hp : H p = none) : Stp as H as (upd H p o) ∧ SRel rc as h (upd H p o) := by
  have s : Stp as H as (upd H p o) := .laid hp
  refine ⟨s, S.keep s (tabs_new S.tab hp) fun a ha => ?_⟩
  obtain ⟨o', e, _⟩ := S.cell ha
  exact upd_ne (ne_of_none e hp)
theorem stp_new {p : Addr} {o : HO} (hp : H p = none) : Stp as H (as ++ [p]) (upd H p o) :=
  ⟨⟨[p], rfl⟩, fun b hb => (List.mem_append.mp hb).elim .inl fun z => .inr (by rw [List.mem_singleton.mp z]; exact .of hp), (Stp.laid (as := as) hp).ext⟩
theorem newCell (S : SRel rc as h H) (r : RDs rc as H ds vs) {p : Addr} (hp : H p = none) :
    Stp as H (as ++ [p]) (upd H p (.lst vs)) ∧ SRel rc (as ++ [p]) (h ++ [.list ds]) (upd H p (.lst vs)) ∧ RD rc (as ++ [p]) (upd H p (.lst vs)) (.ref h.length) (.ref p) := by
  have s : Stp as H (as ++ [p]) (upd H p (.lst vs)) := stp_new hp
  refine ⟨s, ⟨tabs_new S.tab hp, by simp [S.len], ?_, fun n mo a e1 e2 => ?_⟩, ?_⟩
  · exact List.nodup_append.mpr ⟨S.nd, by simp, fun a ha b hb => by
      rw [List.mem_singleton.mp hb]
      intro e
      exact S.free hp (e ▸ ha)⟩
  · by_cases hn : n < h.length
    · rw [List.getElem?_append_left hn] at e1
      rw [List.getElem?_append_left (by rw [S.len]; exact hn)] at e2
      have m := S.ok n mo a e1 e2
      obtain ⟨o, e, _⟩ := m.cellish
      exact m.mono S s (upd_ne (ne_of_none e hp))
    · rw [List.getElem?_append_right (by omega)] at e1
      rw [List.getElem?_append_right (by rw [S.len]; omega), S.len] at e2
      cases hk : n - h.length with
      | zero =>
        rw [hk] at e1 e2
        simp at e1 e2
        subst e1 e2
        exact ⟨vs, upd_same, r.mono S s⟩
      | succ k =>
        rw [hk] at e1
        simp at e1
  · simp only [RD]
    refine ⟨p, rfl, ?_⟩
    rw [← S.len]
    simp
theorem SRel.inj (S : SRel rc as h H) {n m : Nat} {a : Addr} (e1 : as[n]? = some a) (e2 : as[m]? = some a) : n = m := by
  obtain ⟨h1, q1⟩ := List.getElem?_eq_some_iff.mp e1
  obtain ⟨h2, q2⟩ := List.getElem?_eq_some_iff.mp e2
  exact (List.getElem_inj S.nd).mp (q1.trans q2.symm)
theorem stp_set {a : Addr} {xs ys : List V} (ha : a ∈ as) (e : H a = some (.lst xs)) : Stp as H as (upd H a (.lst ys)) := by
  refine ⟨⟨[], by simp⟩, fun b hb => .inl hb, fun b o q hn _ => ?_⟩
  rw [upd_ne]
  · exact q
  · rintro rfl
    rw [e] at q
    cases q
    rcases hn with z | z
    · exact z ha
    · exact z True.intro
/-- a list in a cell is written -/
theorem setCell (S : SRel rc as h H) {n : Nat} {a : Addr} {xs : List V} (ha : as[n]? = some a) (e : H a = some (.lst xs)) (r : RDs rc as H ds vs) :
    Stp as H as (upd H a (.lst vs)) ∧ SRel rc as (h.set n (.list ds)) (upd H a (.lst vs)) := by
  have s : Stp as H as (upd H a (.lst vs)) := stp_set (List.mem_of_getElem? ha) e
  refine ⟨s, tabs_set S.tab e, by simp [S.len], S.nd, fun m mo b e1 e2 => ?_⟩
  by_cases hm : m = n
  · subst hm
    rw [ha] at e2
    cases e2
    have hl : m < h.length := by
      rw [← S.len]
      exact (List.getElem?_eq_some_iff.mp ha).1
    rw [List.getElem?_set_self hl] at e1
    cases e1
    exact ⟨vs, upd_same, r.mono S s⟩
  · rw [List.getElem?_set_ne (Ne.symm hm)] at e1
    refine (S.ok m mo b e1 e2).mono S s (upd_ne ?_)
    rintro rfl
    exact hm (S.inj e2 ha)
theorem SRel.list (S : SRel rc as h H) {n : Nat} {xs : List D} (e : h[n]? = some (.list xs)) {v : V} (r : RD rc as H (.ref n) v) : ∃ a vs, v = .ref a ∧ as[n]? = some a ∧ H a = some (.lst vs) ∧ RDs rc as H xs vs := by
  simp only [RD] at r
  obtain ⟨a, e1, e2⟩ := r
  obtain ⟨vs, q, r⟩ := S.ok n _ a e e2
  exact ⟨a, vs, e1, e2, q, r⟩
theorem SRel.frz (S : SRel rc as h H) {n : Nat} {xs : List D} (e : h[n]? = some (.frz xs)) {v : V} (r : RD rc as H (.ref n) v) : ∃ a vs o, v = .ref a ∧ as[n]? = some a ∧ H a = some (.frz o (.lst vs)) ∧ RDs rc as H xs vs := by
  simp only [RD] at r
  obtain ⟨a, e1, e2⟩ := r
  obtain ⟨vs, o, q, r⟩ := S.ok n _ a e e2
  exact ⟨a, vs, o, e1, e2, q, r⟩
end

/-! ### values as data -/
mutual
theorem pyD_dp {rc : Rc} {as : List Addr} {h : Hs} {H : Hp} (S : SRel rc as h H) : ∀ (n : Nat) (d : D) (v : V) (p : PyData), RD rc as H d v → pyD h n d = some p → Dp rc.K H v p ∧ p.canLay0 = true ∧ p.depth ≤ n
  | 0, _, _, _, _, e => by simp [pyD] at e
  | n + 1, .none, v, p, r, e => by
    simp only [RD] at r
    simp only [pyD, Option.some.injEq] at e
    subst r e
    exact ⟨.non, by simp [PyData.canLay0], by simp [PyData.depth]⟩
  | n + 1, .bool b, v, p, r, e => by
    simp only [RD] at r
    simp only [pyD, Option.some.injEq] at e
    subst r e
    exact ⟨.bl b, by simp [PyData.canLay0], by simp [PyData.depth]⟩
  | n + 1, .int i, v, p, r, e => by
    simp only [RD] at r
    simp only [pyD, Option.some.injEq] at e
    subst r e
    exact ⟨.int i, by simp [PyData.canLay0], by simp [PyData.depth]⟩
  | n + 1, .str s, v, p, r, e => by
    simp only [RD] at r
    simp only [pyD] at e
    split at e
    · rename_i hs
      simp only [Option.some.injEq] at e
      subst r e
      exact ⟨.str s, by simpa [PyData.canLay0] using hs, by simp [PyData.depth]⟩
    · cases e
  | n + 1, .tup xs, v, p, r, e => by
    simp only [RD] at r
    obtain ⟨a, vs, rfl, q, rs⟩ := r
    simp only [pyD] at e
    cases em : mapO (pyD h n) xs with
    | none =>
      rw [em] at e
      simp at e
    | some ps =>
      rw [em] at e
      simp only [Option.map_some, Option.some.injEq] at e
      subst e
      obtain ⟨k1, k2, k3⟩ := pyDs_dp S n xs vs ps rs em
      exact ⟨.tup q k1, by simpa [PyData.canLay0] using k2, by simp only [PyData.depth]; omega⟩
  | n + 1, .ref k, v, p, r, e => by
    simp only [pyD] at e
    split at e
    · rename_i xs hk
      obtain ⟨a, vs, rfl, ea, q, rs⟩ := S.list hk r
      cases em : mapO (pyD h n) xs with
      | none =>
        rw [em] at e
        simp at e
      | some ps =>
        rw [em] at e
        simp only [Option.map_some, Option.some.injEq] at e
        subst e
        obtain ⟨k1, k2, k3⟩ := pyDs_dp S n xs vs ps rs em
        exact ⟨.lst (.of q) k1, by simpa [PyData.canLay0] using k2, by simp only [PyData.depth]; omega⟩
    · cases e
  | n + 1, .fn _, _, _, _, e => by simp [pyD] at e
theorem pyDs_dp {rc : Rc} {as : List Addr} {h : Hs} {H : Hp} (S : SRel rc as h H) : ∀ (n : Nat) (ds : List D) (vs : List V) (ps : List PyData), RDs rc as H ds vs → mapO (pyD h n) ds = some ps → DpAll rc.K H vs ps ∧ PyData.canLayAll0 ps = true ∧ PyData.depthAll ps ≤ n
  | n, [], vs, ps, r, e => by
    simp only [RDs] at r
    simp only [mapO, Option.some.injEq] at e
    subst r e
    exact ⟨.nil, by simp [PyData.canLayAll0], by simp [PyData.depthAll]⟩
  | n, d :: ds, vs, ps, r, e => by
    simp only [RDs] at r
    obtain ⟨v, rr, rfl, h1, h2⟩ := r
    simp only [mapO] at e
    split at e
    · rename_i y ys e1 e2
      simp only [Option.some.injEq] at e
      subst e
      obtain ⟨k1, k2, k3⟩ := pyD_dp S n d v y h1 e1
      obtain ⟨q1, q2, q3⟩ := pyDs_dp S n ds rr ys h2 e2
      exact ⟨.cons k1 q1, by simp [PyData.canLayAll0, k2, q2], by simp only [PyData.depthAll]; omega⟩
    · cases e
end
theorem pyD_shaped {rc : Rc} {as : List Addr} {h : Hs} {H : Hp} (S : SRel rc as h H) {d : D} {v : V} {p : PyData} (r : RD rc as H d v) (e : pyD h deep d = some p) : Dp rc.K H v p ∧ SeqAt.shaped p = true := by
  obtain ⟨k1, k2, k3⟩ := pyD_dp S deep d v p r e
  refine ⟨k1, ?_⟩
  unfold SeqAt.shaped
  rw [k2, Bool.true_and, decide_eq_true_eq]
  unfold deep at k3
  omega
theorem eqvD_dp {rc : Rc} {as : List Addr} {h : Hs} {H : Hp} (S : SRel rc as h H) {x y : D} {v u : V} {b : Bool} (rx : RD rc as H x v) (ry : RD rc as H y u) (e : eqvD h x y = some b) :
    ∃ p q, Dp rc.K H v p ∧ Dp rc.K H u q ∧ SeqAt.shaped p = true ∧ SeqAt.shaped q = true ∧ PyData.eqv p q = b := by
  unfold eqvD at e
  split at e
  · rename_i p q e1 e2
    simp only [Option.some.injEq] at e
    obtain ⟨k1, k2⟩ := pyD_shaped S rx e1
    obtain ⟨q1, q2⟩ := pyD_shaped S ry e2
    exact ⟨p, q, k1, q1, k2, q2, e⟩
  · cases e
end MI
end
section
/-! MD: the operations on values. -/
namespace MI
open PySem PySem.Spec PyProof.Rows L2
section
variable {X : Cx} {rc : Rc}
theorem o_add (hK : rc.K = X.K) : OpR X (binaryOp .Add) (r2 rc Bop.add.run) := by
  rintro pins s σ H x y v u Q I rv ru ⟨as, h, d, e, S, rx, ry, p⟩
  cases d <;> cases e <;> first
    | exact (show False from p).elim
    | skip
  case int.int i j =>
    simp only [RD] at rx ry
    subst rx ry
    exact op_add pins s σ H _ _ v u Q I rv ru ⟨i, j, rfl, rfl, p.ok S _ rfl⟩
  case str.str i j =>
    simp only [RD] at rx ry
    subst rx ry
    simp only [Bop.run] at p
    split at p
    · rename_i hz
      exact op_add_str pins s σ H _ _ v u Q I rv ru ⟨i, j, rfl, rfl, hz, p.ok S _ rfl⟩
    · exact p.elim
  case tup.tup xs ys =>
    simp only [RD] at rx ry
    obtain ⟨a, vs, rfl, qa, rs⟩ := rx
    obtain ⟨b, us, rfl, qb, ts⟩ := ry
    simp only [Bop.run] at p
    split at p
    · rename_i hz
      rw [rs.length, ts.length] at hz
      refine op_catA pins s σ H _ _ v u Q I rv ru ⟨a, b, vs, us, rfl, rfl, hK ▸ qa, hK ▸ qb, hz, fun e => ?_, fun n e => ?_, fun n1 n2 q hq => ?_⟩
      · have e' : xs = [] := List.length_eq_zero_iff.mp (by rw [rs.length, e]; rfl)
        subst e'
        refine p.ok S _ ?_
        simp only [RD]
        exact ⟨b, us, rfl, qb, by simpa using ts⟩
      · have e' : ys = [] := List.length_eq_zero_iff.mp (by rw [ts.length, e]; rfl)
        subst e'
        refine p.ok S _ ?_
        simp only [RD]
        exact ⟨a, vs, rfl, qa, by simpa using rs⟩
      · obtain ⟨s1, S1, r1⟩ := newTup S (rs.app ts) hq
        exact p as _ s1 S1 _ r1
    · exact p.elim
  case ref.ref m n =>
    simp only [Bop.run] at p
    split at p
    · rename_i xs ys hm hn
      split at p
      · rename_i hz
        obtain ⟨a, vs, rfl, ea, qa, rs⟩ := S.list hm rx
        obtain ⟨b, us, rfl, eb, qb, ts⟩ := S.list hn ry
        rw [rs.length, ts.length] at hz
        refine op_cat pins s σ H _ _ v u Q I rv ru ⟨a, b, vs, us, rfl, rfl, qa, qb, hz, fun q hq => ?_⟩
        obtain ⟨s1, S1, r1⟩ := newCell S (rs.app ts) hq
        exact p _ _ s1 S1 _ r1
      · exact p.elim
    · exact p.elim
theorem o_sub : OpR X (binaryOp .Sub) (r2 rc Bop.sub.run) := by
  rintro pins s σ H x y v u Q I rv ru ⟨as, h, d, e, S, rx, ry, p⟩
  cases d <;> cases e <;> first
    | exact (show False from p).elim
    | skip
  case int.int i j =>
    simp only [RD] at rx ry
    subst rx ry
    exact op_sub pins s σ H _ _ v u Q I rv ru ⟨i, j, rfl, rfl, p.ok S _ rfl⟩
theorem small64_ok {i : Int} (h : small64 i = true) : -(2 ^ 64) < i ∧ i < 2 ^ 64 := by
  unfold small64 at h
  simp only [decide_eq_true_eq] at h
  omega
theorem o_mul : OpR X (binaryOp .Mult) (r2 rc Bop.mul.run) := by
  rintro pins s σ H x y v u Q I rv ru ⟨as, h, d, e, S, rx, ry, p⟩
  cases d <;> cases e <;> first
    | exact (show False from p).elim
    | skip
  case int.int i j =>
    simp only [RD] at rx ry
    subst rx ry
    simp only [Bop.run] at p
    split at p
    · rename_i hz
      refine op_mul pins s σ H _ _ v u Q I rv ru ⟨i, j, rfl, rfl, ?_, p.ok S _ rfl⟩
      rcases Bool.or_eq_true_iff.mp hz with z | z
      · exact .inl (small64_ok z)
      · exact .inr (small64_ok z)
    · exact p.elim
theorem o_mod : OpR X (binaryOp .Mod) (r2 rc Bop.mod.run) := by
  rintro pins s σ H x y v u Q I rv ru ⟨as, h, d, e, S, rx, ry, p⟩
  cases d <;> cases e <;> first
    | exact (show False from p).elim
    | skip
  case int.int i j =>
    simp only [RD] at rx ry
    subst rx ry
    simp only [Bop.run] at p
    split at p
    · rename_i hz
      exact op_mod pins s σ H _ _ v u Q I rv ru ⟨i, j, rfl, rfl, hz, p.ok S _ rfl⟩
    · exact p.elim
theorem o_fdiv : OpR X (binaryOp .FloorDiv) (r2 rc Bop.fdiv.run) := by
  rintro pins s σ H x y v u Q I rv ru ⟨as, h, d, e, S, rx, ry, p⟩
  cases d <;> cases e <;> first
    | exact (show False from p).elim
    | skip
  case int.int i j =>
    simp only [RD] at rx ry
    subst rx ry
    simp only [Bop.run] at p
    split at p
    · rename_i hz
      exact op_fdiv pins s σ H _ _ v u Q I rv ru ⟨i, j, rfl, rfl, ⟨hz.1, by omega⟩, p.ok S _ rfl⟩
    · exact p.elim
theorem o_pow : OpR X (binaryOp .Pow) (r2 rc Bop.pow.run) := by
  rintro pins s σ H x y v u Q I rv ru ⟨as, h, d, e, S, rx, ry, p⟩
  cases d <;> cases e <;> first
    | exact (show False from p).elim
    | skip
  case int.int i j =>
    simp only [RD] at rx ry
    subst rx ry
    simp only [Bop.run] at p
    split at p
    · rename_i hz
      exact op_pow pins s σ H _ _ v u Q I rv ru ⟨i, j, rfl, rfl, ⟨hz.1, by omega, hz.2.2⟩, p.ok S _ rfl⟩
    · exact p.elim
theorem o_shl : OpR X (binaryOp .LShift) (r2 rc Bop.shl.run) := by
  rintro pins s σ H x y v u Q I rv ru ⟨as, h, d, e, S, rx, ry, p⟩
  cases d <;> cases e <;> first
    | exact (show False from p).elim
    | skip
  case int.int i j =>
    simp only [RD] at rx ry
    subst rx ry
    simp only [Bop.run] at p
    split at p
    · rename_i hz
      exact op_shl pins s σ H _ _ v u Q I rv ru ⟨i, j, rfl, rfl, ⟨hz.1, by omega, hz.2.2⟩, p.ok S _ rfl⟩
    · exact p.elim
def Bop.py : Bop → Operator
  | .add => .Add | .sub => .Sub | .mul => .Mult | .mod => .Mod | .fdiv => .FloorDiv | .pow => .Pow | .shl => .LShift
theorem o_bin (hK : rc.K = X.K) : ∀ o : Bop, OpR X (binaryOp o.py) (r2 rc o.run)
  | .add => o_add hK
  | .sub => o_sub
  | .mul => o_mul
  | .mod => o_mod
  | .fdiv => o_fdiv
  | .pow => o_pow
  | .shl => o_shl
theorem newC_noexc (o : MO) (h : Hs) (e : Ex) (h' : Hs) : newC o h ≠ .exc e h' := by
  unfold newC
  intro z
  cases z
theorem bop_noexc (o : Bop) (x y : D) (h : Hs) (e : Ex) (h' : Hs) : o.run x y h ≠ .exc e h' := by
  intro z
  unfold Bop.run at z
  split at z <;> (try split at z) <;> (try split at z) <;> first
    | (cases z; done)
    | exact newC_noexc _ _ _ _ z

/-! ### comparisons -/
/-- the rule of a comparison -/
def rC (rc : Rc) (f : D → D → Hs → Option Bool) : R2 := fun x y H Q =>
  ∃ as h d e b, SRel rc as h H ∧ RD rc as H d x ∧ RD rc as H e y ∧ f d e h = some b ∧ Q (.bl b) H
theorem room_d {A : Around} {d e : PyData} (hu : A.units + 66 < cLine) (hd : SeqAt.shaped d = true) : A.units + min d.depth e.depth < cLine := by
  have h1 := SeqAt.depth_of_shaped hd
  have h2 : min d.depth e.depth ≤ d.depth := Nat.min_le_left _ _
  omega
theorem o_eq (hK : rc.K = X.K) (hu : X.A.units + 66 < cLine) : OpR X (compareOp .Eq) (rC rc Cop.eq.run) := by
  rintro pins s σ H x y v u Q I rv ru ⟨as, h, d, e, b, S, rx, ry, eb, q⟩
  obtain ⟨p1, p2, k1, k2, s1, s2, ev⟩ := eqvD_dp S rx ry (show eqvD h d e = some b from eb)
  exact op_eqD (by omega) pins s σ H x y v u Q I rv ru ⟨p1, p2, hK ▸ k1, hK ▸ k2, s1, s2, by rw [ev]; exact q⟩
theorem o_ne (hK : rc.K = X.K) (hu : X.A.units + 66 < cLine) : OpR X (compareOp .NotEq) (rC rc Cop.ne.run) := by
  rintro pins s σ H x y v u Q I rv ru ⟨as, h, d, e, b, S, rx, ry, eb, q⟩
  cases ee : eqvD h d e with
  | none =>
    have z : (eqvD h d e).map (!·) = some b := eb
    rw [ee] at z
    cases z
  | some c =>
    have z : (eqvD h d e).map (!·) = some b := eb
    rw [ee] at z
    simp only [Option.map_some, Option.some.injEq] at z
    subst z
    obtain ⟨p1, p2, k1, k2, s1, s2, ev⟩ := eqvD_dp S rx ry ee
    exact op_neD (by omega) pins s σ H x y v u Q I rv ru ⟨p1, p2, hK ▸ k1, hK ▸ k2, s1, s2, by rw [ev]; exact q⟩
theorem ordD_ok {f : PyData → PyData → Bool} {h : Hs} {d e : D} {b : Bool} (z : ordD h f d e = some b) : ∃ p q, pyD h deep d = some p ∧ pyD h deep e = some q ∧ p ≠ .none ∧ PySem.W.alike p q = true ∧ f p q = b := by
  unfold ordD at z
  split at z
  · rename_i p q e1 e2
    split at z
    · cases z
    · rename_i hn
      split at z
      · rename_i ha
        simp only [Option.some.injEq] at z
        exact ⟨p, q, e1, e2, hn, ha, z⟩
      · cases z
  · cases z
/-- an order of data -/
theorem o_ord {op : CmpOp} {f : PyData → PyData → Bool} (hK : rc.K = X.K) (hu : X.A.units + 66 < cLine)
    (rule : ∀ {s : Shared} {a b : Value} {da db : PyData} {as bs : List Addr} {Q : Value → Shared → Prop}, Reads s.heap a da as → Reads s.heap b db bs → PySem.W.alike da db = true → da ≠ .none → X.A.units + min da.depth db.depth < cLine → Q (.bool (f da db)) s →
      wpAny (model X.prog X.w) X.A (compareOp op a b) Q X.xe s) : OpR X (compareOp op) (rC rc fun x y h => ordD h f x y) := by
  rintro pins s σ H x y v u Q I rv ru ⟨as, h, d, e, b, S, rx, ry, eb, q⟩
  obtain ⟨p1, p2, e1, e2, hn, ha, ef⟩ := ordD_ok eb
  obtain ⟨k1, s1⟩ := pyD_shaped S rx e1
  obtain ⟨k2, s2⟩ := pyD_shaped S ry e2
  obtain ⟨as1, r1⟩ := Dp.reads I p1 x v (hK ▸ k1) rv
  obtain ⟨as2, r2⟩ := Dp.reads I p2 y u (hK ▸ k2) ru
  exact rule r1 r2 ha hn (room_d hu s1) ⟨.bl _, H, I, rfl, by rw [ef]; exact q⟩
/-- .. ints by their own rule -/
theorem o_ordI {op : CmpOp} {f : PyData → PyData → Bool} {g : Int → Int → Bool} (ho : OpR X (compareOp op) (rC rc fun x y h => ordD h f x y)) (hi : OpR X (compareOp op) (rI0 fun i j => .bl (g i j))) :
    OpR X (compareOp op) (rC rc fun x y h => match x, y with
      | .int i, .int j => some (g i j)
      | _, _ => ordD h f x y) := by
  rintro pins s σ H x y v u Q I rv ru ⟨as, h, d, e, b, S, rx, ry, eb, q⟩
  dsimp only at eb
  split at eb
  · simp only [Option.some.injEq] at eb
    simp only [RD] at rx ry
    subst eb rx ry
    exact hi pins s σ H _ _ v u Q I rv ru ⟨_, _, rfl, rfl, q⟩
  · exact ho pins s σ H x y v u Q I rv ru ⟨as, h, d, e, b, S, rx, ry, eb, q⟩
theorem o_lt (hK : rc.K = X.K) (hu : X.A.units + 66 < cLine) : OpR X (compareOp .Lt) (rC rc Cop.lt.run) := o_ordI (o_ord hK hu PySem.W.lt_data) op_lt
theorem o_gt (hK : rc.K = X.K) (hu : X.A.units + 66 < cLine) : OpR X (compareOp .Gt) (rC rc Cop.gt.run) := o_ordI (o_ord hK hu PySem.W.gt_data) op_gt
theorem o_le (hK : rc.K = X.K) (hu : X.A.units + 66 < cLine) : OpR X (compareOp .LtE) (rC rc Cop.le.run) := o_ordI (o_ord hK hu PySem.W.le_data) op_le
theorem o_ge (hK : rc.K = X.K) (hu : X.A.units + 66 < cLine) : OpR X (compareOp .GtE) (rC rc Cop.ge.run) := o_ordI (o_ord hK hu PySem.W.ge_data) op_ge
theorem RD.non_iff {as : List Addr} {H : Hp} {d : D} {v : V} (r : RD rc as H d v) : decide (v = .non) = isNone d := by
  cases d with
  | none => simp only [RD] at r; subst r; rfl
  | bool b => simp only [RD] at r; subst r; rfl
  | int i => simp only [RD] at r; subst r; rfl
  | str s => simp only [RD] at r; subst r; rfl
  | tup xs => simp only [RD] at r; obtain ⟨a, vs, rfl, _⟩ := r; rfl
  | ref n => simp only [RD] at r; obtain ⟨a, rfl, _⟩ := r; rfl
  | fn k => simp only [RD] at r; obtain ⟨rfl, _⟩ := r; rfl
  | clo l => simp only [RD] at r; obtain ⟨a, _, _, _, rfl, _⟩ := r; rfl
theorem o_is : OpR X (compareOp .Is) (rC rc Cop.is.run) := by
  rintro pins s σ H x y v u Q I rv ru ⟨as, h, d, e, b, S, rx, ry, eb, q⟩
  cases e <;> first
    | (cases (show (none : Option Bool) = some b from eb); done)
    | skip
  simp only [RD] at ry
  subst ry
  have e2 : isNone d = b := Option.some.inj (show some (isNone d) = some b from eb)
  exact op_isN pins s σ H _ _ v u Q I rv ru ⟨rfl, by rw [rx.non_iff, e2]; exact q⟩
theorem o_isn : OpR X (compareOp .IsNot) (rC rc Cop.isn.run) := by
  rintro pins s σ H x y v u Q I rv ru ⟨as, h, d, e, b, S, rx, ry, eb, q⟩
  cases e <;> first
    | (cases (show (none : Option Bool) = some b from eb); done)
    | skip
  simp only [RD] at ry
  subst ry
  have e2 : (!isNone d) = b := Option.some.inj (show some (!isNone d) = some b from eb)
  exact op_notN pins s σ H _ _ v u Q I rv ru ⟨rfl, by rw [rx.non_iff, e2]; exact q⟩
theorem amongD_ok {as : List Addr} {h : Hs} {H : Hp} (S : SRel rc as h H) {d : D} {ys : List D} {x : V} {vs : List V} {b : Bool} (rx : RD rc as H d x) (ry : RDs rc as H ys vs) (e : amongD h d ys = some b) :
    ∃ p ps, Dp rc.K H x p ∧ DpAll rc.K H vs ps ∧ SeqAt.shaped p = true ∧ PyData.canLayAll0 ps = true ∧ (ps.any fun z => PyData.eqv z p) = b := by
  unfold amongD at e
  split at e
  · rename_i p ps e1 e2
    obtain ⟨k1, k2⟩ := pyD_shaped S rx e1
    obtain ⟨q1, q2, q3⟩ := pyDs_dp S deep ys vs ps ry e2
    exact ⟨p, ps, k1, q1, k2, q2, Option.some.inj e⟩
  · cases e
/-- in, not in: the model's answers c of the truth k -/
theorem o_in' {op : CmpOp} {g : Bool → Bool} (hK : rc.K = X.K) (hu : X.A.units + 66 < cLine)
    (rl : ∀ {s : Shared} {c x : Value} {xs : List PyData} {d : PyData} {as bs : List Addr} {Q : Value → Shared → Prop}, Reads s.heap c (.list xs) as → Reads s.heap x d bs → PyData.canLayAll0 xs = true → d.canLay0 = true →
      X.A.units + 1 + min (PyData.depthAll xs) d.depth < cLine → Q (.bool (g (xs.any fun y => PyData.eqv y d))) s → wpAny (model X.prog X.w) X.A (compareOp op x c) Q X.xe s)
    (rt : ∀ {s : Shared} {c x : Value} {xs : List PyData} {d : PyData} {as bs : List Addr} {Q : Value → Shared → Prop}, Reads s.heap c (.tuple xs) as → Reads s.heap x d bs → PyData.canLayAll0 xs = true → d.canLay0 = true →
      X.A.units + 1 + min (PyData.depthAll xs) d.depth < cLine → Q (.bool (g (xs.any fun y => PyData.eqv y d))) s → wpAny (model X.prog X.w) X.A (compareOp op x c) Q X.xe s)
    (rs : OpR X (compareOp op) (fun x y H Q => ∃ i j, x = .str i ∧ y = .str j ∧ Q (.bl (g (!(Builtin.Str.occurrences j i 0 j.length 1).isEmpty))) H))
    : OpR X (compareOp op) (rC rc fun x y h => (inD h x y).map g) := by
  rintro pins s σ H x y v u Q I rv ru ⟨as, h, d, e, b, S, rx, ry, eb, q⟩
  obtain ⟨k, ek, rfl⟩ := Option.map_eq_some_iff.mp eb
  unfold inD at ek
  split at ek
  · rename_i ys
    simp only [RD] at ry
    obtain ⟨a, vs, rfl, qa, rs⟩ := ry
    obtain ⟨p, ps, k1, k2, k3, k4, k5⟩ := amongD_ok S rx rs ek
    subst k5
    obtain ⟨as1, r1⟩ := Dp.reads I p x v (hK ▸ k1) rv
    obtain ⟨as2, r2⟩ := Dp.reads I (.tuple ps) (.ref a) u (.tup (hK ▸ qa) (hK ▸ k2)) ru
    refine rt r2 r1 k4 (SeqAt.canLay_of_shaped k3) ?_ ⟨.bl _, H, I, rfl, q⟩
    have h1 := SeqAt.depth_of_shaped k3
    have h2 : min (PyData.depthAll ps) p.depth ≤ p.depth := Nat.min_le_right _ _
    omega
  · rename_i j
    simp only [RD] at ry
    subst ry
    split at ek
    · rename_i i
      simp only [RD] at rx
      subst rx
      cases ek
      exact rs pins s σ H _ _ v u Q I rv ru ⟨_, _, rfl, rfl, q⟩
    · cases ek
  · rename_i n
    split at ek
    · rename_i ys hn
      obtain ⟨a, vs, rfl, ea, qa, rs⟩ := S.list hn ry
      obtain ⟨p, ps, k1, k2, k3, k4, k5⟩ := amongD_ok S rx rs ek
      subst k5
      obtain ⟨as1, r1⟩ := Dp.reads I p x v (hK ▸ k1) rv
      obtain ⟨as2, r2⟩ := Dp.reads I (.list ps) (.ref a) u (.lst (.of qa) (hK ▸ k2)) ru
      refine rl r2 r1 k4 (SeqAt.canLay_of_shaped k3) ?_ ⟨.bl _, H, I, rfl, q⟩
      have h1 := SeqAt.depth_of_shaped k3
      have h2 : min (PyData.depthAll ps) p.depth ≤ p.depth := Nat.min_le_right _ _
      omega
    · rename_i kvs hn
      simp only [RD] at ry
      obtain ⟨a, rfl, ea⟩ := ry
      exact (S.ok n _ a hn ea).elim
    · cases ek
  · cases ek
theorem o_inn (hK : rc.K = X.K) (hu : X.A.units + 66 < cLine) : OpR X (compareOp .In) (rC rc Cop.inn.run) := by
  have h := o_in' (X := X) (rc := rc) (op := .In) (g := id) hK hu (fun a b c d e f => SeqAt.in_list_reads a b c d e f) (fun a b c d e f => SeqAt.in_tuple_reads a b c d e f) op_in_str
  have h2 : OpR X (compareOp .In) (rC rc fun x y h => inD h x y) := by simpa using h
  exact h2
theorem o_nin (hK : rc.K = X.K) (hu : X.A.units + 66 < cLine) : OpR X (compareOp .NotIn) (rC rc Cop.nin.run) :=
  o_in' (X := X) (rc := rc) (op := .NotIn) (g := (!·)) hK hu (fun a b c d e f => SeqAt.notIn_list_reads a b c d e f) (fun a b c d e f => SeqAt.notIn_tuple_reads a b c d e f) op_notIn_str
def Cop.py : Cop → CmpOp
  | .eq => .Eq | .ne => .NotEq | .lt => .Lt | .le => .LtE | .gt => .Gt | .ge => .GtE | .is => .Is | .isn => .IsNot | .inn => .In | .nin => .NotIn
theorem o_cmp (hK : rc.K = X.K) (hu : X.A.units + 66 < cLine) : ∀ o : Cop, OpR X (compareOp o.py) (rC rc o.run)
  | .eq => o_eq hK hu
  | .ne => o_ne hK hu
  | .lt => o_lt hK hu
  | .le => o_le hK hu
  | .gt => o_gt hK hu
  | .ge => o_ge hK hu
  | .is => o_is
  | .isn => o_isn
  | .inn => o_inn hK hu
  | .nin => o_nin hK hu
end
end MI
end
section
/-! ME: built-ins, subscripts, truth. -/
namespace MI
open PySem PySem.Spec PyProof.Rows L2
section
variable {X : Cx} {rc : Rc}
/-- the rule of a built-in of one value -/
def rF (rc : Rc) (f : D → Hs → Option D) : List V → Hp → VK → Prop := fun xs H Q =>
  ∃ as h d v e, xs = [v] ∧ SRel rc as h H ∧ RD rc as H d v ∧ f d h = some e ∧ ∀ u, RD rc as H e u → Q u H
theorem c_abs : CallR X (.builtin "abs") (rF rc F1.abs.run) := by
  rintro pins s σ H xs us Q I r ⟨as, h, d, v, e, rfl, S, rd, ef, q⟩
  cases d <;> first
    | (cases (show (none : Option D) = some e from ef); done)
    | skip
  simp only [RD] at rd
  subst rd
  cases ef
  exact call_abs pins s σ H _ us Q I r ⟨_, rfl, q _ rfl⟩
theorem c_int : CallR X (.type "int") (rF rc F1.int.run) := by
  rintro pins s σ H xs us Q I r ⟨as, h, d, v, e, rfl, S, rd, ef, q⟩
  cases d <;> first
    | (cases (show (none : Option D) = some e from ef); done)
    | skip
  case int i =>
    simp only [RD] at rd
    subst rd
    cases ef
    exact call_int1 pins s σ H _ us Q I r (.inl ⟨_, rfl, q _ rfl⟩)
  case bool b =>
    simp only [RD] at rd
    subst rd
    cases ef
    exact call_int1 pins s σ H _ us Q I r (.inr ⟨_, rfl, q _ rfl⟩)
theorem c_str : CallR X (.type "str") (rF rc F1.str.run) := by
  rintro pins s σ H xs us Q I r ⟨as, h, d, v, e, rfl, S, rd, ef, q⟩
  cases d <;> first
    | (cases (show (none : Option D) = some e from ef); done)
    | skip
  case int i =>
    simp only [RD] at rd
    subst rd
    simp only [F1.run] at ef
    split at ef
    · rename_i hz
      cases ef
      exact call_str_int pins s σ H _ us Q I r ⟨i, rfl, hz, q _ rfl⟩
    · cases ef
theorem c_repr (hK : rc.K = X.K) (hu : X.A.units + 66 < cLine) (hg : X.A.guards = some []) : CallR X (.builtin "repr") (rF rc F1.repr.run) := by
  rintro pins s σ H xs us Q I r ⟨as, h, d, v, e, rfl, S, rd, ef, q⟩
  obtain ⟨u, rfl, rv⟩ := vals1 r
  have ef2 : (match pyD h deep d with
    | some p => if p.showable && decide (p.shown.length ≤ sizeLine) then some (D.str p.shown) else none
    | none => none) = some e := by
    cases d <;> exact ef
  cases ep : pyD h deep d with
  | none =>
    rw [ep] at ef2
    cases ef2
  | some p =>
    rw [ep] at ef2
    dsimp only at ef2
    split at ef2
    · rename_i hz
      simp only [Bool.and_eq_true, decide_eq_true_eq] at hz
      cases ef2
      obtain ⟨k1, k2⟩ := pyD_shaped S rd ep
      obtain ⟨bs, rr⟩ := Dp.reads I p v u (hK ▸ k1) rv
      have hnd : p.hasDict = false := PyData.hasDict_of_canLay p (SeqAt.canLay_of_shaped k2)
      have hd := SeqAt.depth_of_shaped k2
      cases rr with
      | none => exact PySem.P.repr_of_none ⟨.str (PyData.shown .none), H, I.tok _, ⟨s.toks, by simp only [PyData.shown]⟩, q _ (by simp only [RD])⟩
      | bool b => exact PySem.P.repr_of_bool ⟨.str (PyData.shown (.bool b)), H, I.tok _, ⟨s.toks, by simp only [PyData.shown]⟩, q _ (by simp only [RD])⟩
      | int i t => exact PySem.P.repr_of_int (by simpa [PyData.showable] using hz.1) ⟨.str (PyData.shown (.int i)), H, I.tok _, ⟨s.toks, by simp only [PyData.shown]⟩, q _ (by simp only [RD])⟩
      | str x t => exact PySem.P.repr_of_str ⟨.str (PyData.shown (.str x)), H, I.tok _, ⟨s.toks, by simp only [PyData.shown]⟩, q _ (by simp only [RD])⟩ (by simpa [PyData.shown] using hz.2)
      | list h1 h2 h3 h4 => exact repr_of_reads' (.list h1 h2 h3 h4) hz.1 (PyData.noDict_hsm hnd) hg (by omega) (fun _ _ e => e) (fun h' u tk hk => ⟨.str (PyData.shown _), H, I.kept hk, ⟨_, rfl⟩, q _ (by simp only [RD])⟩) hz.2
      | tuple h1 h2 h3 h4 => exact repr_of_reads' (.tuple h1 h2 h3 h4) hz.1 (PyData.noDict_hsm hnd) hg (by omega) (fun _ _ e => e) (fun h' u tk hk => ⟨.str (PyData.shown _), H, I.kept hk, ⟨_, rfl⟩, q _ (by simp only [RD])⟩) hz.2
      | dict => simp [PyData.hasDict] at hnd
    · cases ef2
/-- min(a, b), max(a, b) of ints -/
def rF2 (rc : Rc) (f : D → D → Option D) : List V → Hp → VK → Prop := fun xs H Q =>
  ∃ as h d1 d2 v1 v2 e, xs = [v1, v2] ∧ SRel rc as h H ∧ RD rc as H d1 v1 ∧ RD rc as H d2 v2 ∧ f d1 d2 = some e ∧ ∀ u, RD rc as H e u → Q u H
theorem c_min2 (hc : X.calm = true) : CallR X (.builtin "min") (rF2 rc F2.min.run) := by
  rintro pins s σ H xs us Q I r ⟨as, h, d, e, v1, v2, b, rfl, S, rx, ry, ef, q⟩
  cases d <;> cases e <;> first
    | (cases (show (none : Option D) = some b from ef); done)
    | skip
  simp only [RD] at rx ry
  subst rx ry
  cases ef
  exact call_min2 hc pins s σ H _ us Q I r ⟨_, _, rfl, q _ rfl⟩
theorem c_max2 (hc : X.calm = true) : CallR X (.builtin "max") (rF2 rc F2.max.run) := by
  rintro pins s σ H xs us Q I r ⟨as, h, d, e, v1, v2, b, rfl, S, rx, ry, ef, q⟩
  cases d <;> cases e <;> first
    | (cases (show (none : Option D) = some b from ef); done)
    | skip
  simp only [RD] at rx ry
  subst rx ry
  cases ef
  exact call_max2 hc pins s σ H _ us Q I r ⟨_, _, rfl, q _ rfl⟩

/-! ### a list or a tuple as an argument -/
/-- a list (a cell's, or one just made) or a tuple stands at a -/
def SeqAtV (K : PySem.W.Frag) (H : Hp) (a : Addr) (vs : List V) : Prop := SqL K H a vs ∨ SqT K H a vs
theorem intsD_ok {as : List Addr} {H : Hp} : ∀ {ds : List D} {vs : List V} {is : List Int}, RDs rc as H ds vs → intsD ds = some is → vs = is.map V.int
  | [], vs, is, r, e => by
    simp only [RDs] at r
    simp only [intsD, Option.some.injEq] at e
    subst r e
    rfl
  | d :: ds, vs, is, r, e => by
    simp only [RDs] at r
    obtain ⟨v, rr, rfl, h1, h2⟩ := r
    cases d <;> first
      | (cases (show (none : Option (List Int)) = some is from e); done)
      | skip
    rename_i i
    simp only [intsD] at e
    obtain ⟨js, e1, rfl⟩ := Option.map_eq_some_iff.mp e
    simp only [RD] at h1
    subst h1
    rw [intsD_ok h2 e1]
    rfl
theorem boolsD_ok {as : List Addr} {H : Hp} : ∀ {ds : List D} {vs : List V} {bs : List Bool}, RDs rc as H ds vs → boolsD ds = some bs → vs = bs.map V.bl
  | [], vs, is, r, e => by
    simp only [RDs] at r
    simp only [boolsD, Option.some.injEq] at e
    subst r e
    rfl
  | d :: ds, vs, is, r, e => by
    simp only [RDs] at r
    obtain ⟨v, rr, rfl, h1, h2⟩ := r
    cases d <;> first
      | (cases (show (none : Option (List Bool)) = some is from e); done)
      | skip
    rename_i i
    simp only [boolsD] at e
    obtain ⟨js, e1, rfl⟩ := Option.map_eq_some_iff.mp e
    simp only [RD] at h1
    subst h1
    rw [boolsD_ok h2 e1]
    rfl
end
end MI
end
section
/-! MF: expressions, tests, argument lists. -/
namespace MI
open PySem PySem.Spec PyProof.Rows L2
/-- a list just made: it stands at an address that is no cell's -/
def tL (rc : Rc) (W : WX) (f : Env → Hs → R (List D)) : TE := fun σ H Q =>
  ∃ as env h, ERel rc as H env σ ∧ SRel rc as h H ∧ Post rc W σ as H (fun ds as' _ H' => ∀ a vs, H' a = some (.lst vs) → a ∉ as' → Nw H a → RDs rc as' H' ds vs → Q (.ref a) H') (f env h)
/-- a test, nothing forgotten -/
def tst0 (r : R D) : R Bool := r.bind fun x h => ofO (truthD h x) h

section
variable {rc : Rc} {W : WX} {σ : Sg} {as as1 : List Addr} {H H1 : Hp} {h h1 : Hs} {α β : Type}
mutual
/-- what could be told with fewer cells -/
theorem RD.shrink {z : List Addr} : ∀ {d : D} {v u : V}, RD rc as H d u → RD rc (as ++ z) H1 d v → RD rc as H1 d v
  | .none, v, u, _, r => by simpa [RD] using r
  | .bool b, v, u, _, r => by simpa [RD] using r
  | .int i, v, u, _, r => by simpa [RD] using r
  | .str s, v, u, _, r => by simpa [RD] using r
  | .tup xs, v, u, r0, r => by
    simp only [RD] at r0 r ⊢
    obtain ⟨_, us, _, _, r0⟩ := r0
    obtain ⟨a, vs, e, q, rs⟩ := r
    exact ⟨a, vs, e, q, RDs.shrink r0 rs⟩
  | .ref n, v, u, r0, r => by
    simp only [RD] at r0 r ⊢
    obtain ⟨b, _, e0⟩ := r0
    obtain ⟨a, e, q⟩ := r
    rw [List.getElem?_append_left (List.getElem?_eq_some_iff.mp e0).1] at q
    exact ⟨a, e, q⟩
  | .fn k, v, u, _, r => by simpa [RD] using r
  | .clo l, v, u, _, r => by
    simp only [RD] at r ⊢
    obtain ⟨a, pm, c, ct, e, na, nc, q1, q2⟩ := r
    exact ⟨a, pm, c, ct, e, fun hm => na (List.mem_append_left _ hm), fun hm => nc (List.mem_append_left _ hm), q1, q2⟩
theorem RDs.shrink {z : List Addr} : ∀ {ds : List D} {vs us : List V}, RDs rc as H ds us → RDs rc (as ++ z) H1 ds vs → RDs rc as H1 ds vs
  | [], vs, us, _, r => by simpa [RDs] using r
  | x :: xs, vs, us, r0, r => by
    simp only [RDs] at r0 r ⊢
    obtain ⟨_, _, _, a1, a2⟩ := r0
    obtain ⟨v, rr, e, b1, b2⟩ := r
    exact ⟨v, rr, e, RD.shrink a1 b1, RDs.shrink a2 b2⟩
end
mutual
theorem RD.flat {z : List Addr} : ∀ {d : D} {v : V}, d.flat = true → RD rc (as ++ z) H d v → RD rc as H d v
  | .none, v, _, r => by simpa [RD] using r
  | .bool b, v, _, r => by simpa [RD] using r
  | .int i, v, _, r => by simpa [RD] using r
  | .str s, v, _, r => by simpa [RD] using r
  | .tup xs, v, f, r => by
    simp only [RD] at r ⊢
    obtain ⟨a, vs, e, q, rs⟩ := r
    exact ⟨a, vs, e, q, RDs.flat (by simpa [D.flat] using f) rs⟩
  | .ref n, v, f, r => by simp [D.flat] at f
  | .fn k, v, _, r => by simpa [RD] using r
  | .clo l, v, f, r => by simp [D.flat] at f
theorem RDs.flat {z : List Addr} : ∀ {ds : List D} {vs : List V}, D.flats ds = true → RDs rc (as ++ z) H ds vs → RDs rc as H ds vs
  | [], vs, _, r => by simpa [RDs] using r
  | x :: xs, vs, f, r => by
    simp only [RDs] at r ⊢
    simp only [D.flats, Bool.and_eq_true] at f
    obtain ⟨v, rr, e, b1, b2⟩ := r
    exact ⟨v, rr, e, RD.flat f.1 b1, RDs.flat f.2 b2⟩
end
/-- the cells that were laid are forgotten -/
theorem SRel.cut (S : SRel rc as h H) (p : Stp as H as1 H1) {z : Hs} (S1 : SRel rc as1 (h ++ z) H1) : Stp as H as H1 ∧ SRel rc as h H1 := by
  obtain ⟨y, rfl⟩ := p.pre
  refine ⟨⟨⟨[], by simp⟩, fun b hb => .inl hb, p.ext⟩, S1.tab, S.len, S.nd, fun n mo a e1 e2 => ?_⟩
  have hn : n < h.length := (List.getElem?_eq_some_iff.mp e1).1
  have e1' : (h ++ z)[n]? = some mo := by rw [List.getElem?_append_left hn]; exact e1
  have e2' : (as ++ y)[n]? = some a := by rw [List.getElem?_append_left (by rw [S.len]; exact hn)]; exact e2
  have m0 := S.ok n mo a e1 e2
  have m1 := S1.ok n mo a e1' e2'
  cases mo with
  | list xs =>
    obtain ⟨us, _, r0⟩ := m0
    obtain ⟨vs, e, r⟩ := m1
    exact ⟨vs, e, RDs.shrink r0 r⟩
  | frz xs =>
    obtain ⟨us, _, _, r0⟩ := m0
    obtain ⟨vs, o, e, r⟩ := m1
    exact ⟨vs, o, e, RDs.shrink r0 r⟩
  | dict _ => exact m1.elim
  | inst _ _ => exact m1.elim
theorem Post.gc {P : D → List Addr → Hs → Hp → Prop} {r : R D} (S : SRel rc as h H) (p : Post rc W σ as H P (gc h r)) :
    Post rc W σ as H (fun d as' h' H' => ∃ as'' h'', Stp as H as'' H' ∧ SRel rc as'' h'' H' ∧ P d as'' h'' H' ∧ ∀ v, RD rc as' H' d v → RD rc as'' H' d v) r := by
  cases r with
  | ok d h' =>
    intro as' H' s1 S1
    unfold MI.gc at p
    dsimp only at p
    split at p
    · rename_i hz
      simp only [Bool.and_eq_true] at hz
      obtain ⟨z, rfl⟩ := Hs.pre_ok hz.2
      obtain ⟨s2, S2⟩ := S.cut s1 S1
      refine ⟨as, h, s2, S2, p as H' s2 S2, fun v rv => ?_⟩
      obtain ⟨y, rfl⟩ := s1.pre
      exact RD.flat hz.1 rv
    · exact ⟨as', h', s1, S1, p as' H' s1 S1, fun v rv => rv⟩
  | exc x h' => exact p
  | stuck => exact p
theorem Post.gcX {P : D → List Addr → Hs → Hp → Prop} {r : R D} (S : SRel rc as h H) (p : Post rc W σ as H P (gcX h r)) :
    Post rc W σ as H (fun d as' h' H' => ∃ as'' h'', Stp as H as'' H' ∧ SRel rc as'' h'' H' ∧ P d as'' h'' H' ∧ ∀ v, RD rc as' H' d v → RD rc as'' H' d v) r := by
  cases r with
  | ok d h' => exact Post.gc (r := .ok d h') S p
  | exc x h' =>
    intro as' H' cls dd s1 S1 xr
    unfold MI.gcX at p
    dsimp only at p
    split at p
    · rename_i hz
      simp only [Bool.and_eq_true] at hz
      obtain ⟨z, rfl⟩ := Hs.pre_ok hz.2
      obtain ⟨s2, S2⟩ := S.cut s1 S1
      exact p as H' cls dd s2 S2 xr
    · exact p as' H' cls dd s1 S1 xr
  | stuck => exact p
end

section
variable {X : Cx} {rc : Rc} {W : WX} {a b c : Expr} {pos : Pos} {k : Ct}
theorem truV (hK : rc.K = X.K) {as : List Addr} {h : Hs} {H : Hp} (S : SRel rc as h H) {d : D} {x : V} {t : Bool} (r : RD rc as H d x) (e : truthD h d = some t) : TruV X.K x H t := by
  cases d with
  | none => simp only [RD] at r; subst r; exact (Option.some.inj e).symm
  | bool b => simp only [RD] at r; subst r; exact (Option.some.inj e).symm
  | int i => simp only [RD] at r; subst r; exact (Option.some.inj e).symm
  | str s =>
    simp only [RD] at r
    subst r
    simp only [truthD] at e
    split at e
    · rename_i hz
      exact ⟨hz, (Option.some.inj e).symm⟩
    · cases e
  | tup xs =>
    simp only [RD] at r
    obtain ⟨a, vs, rfl, q, rs⟩ := r
    refine .inr (.inl ⟨vs, hK ▸ q, ?_⟩)
    have e' := Option.some.inj e
    rw [← e']
    have := rs.length
    cases xs <;> cases vs <;> simp_all
  | ref n =>
    simp only [truthD] at e
    split at e
    · rename_i xs hn
      obtain ⟨a, vs, rfl, ea, q, rs⟩ := S.list hn r
      refine .inl ⟨vs, .of q, ?_⟩
      rw [← Option.some.inj e]
      have := rs.length
      cases xs <;> cases vs <;> simp_all
    · rename_i xs hn
      obtain ⟨a, vs, o, rfl, ea, q, rs⟩ := S.frz hn r
      refine .inl ⟨vs, .inl (.inr ⟨o, q⟩), ?_⟩
      rw [← Option.some.inj e]
      have := rs.length
      cases xs <;> cases vs <;> simp_all
    · rename_i kvs hn
      simp only [RD] at r
      obtain ⟨a, rfl, ea⟩ := r
      exact (S.ok n _ a hn ea).elim
    · cases e
  | fn k => cases e
  | clo l => cases e
theorem truth_flat {d : D} (h h' : Hs) (f : d.flat = true) : truthD h d = truthD h' d := by
  cases d with
  | ref n => simp [D.flat] at f
  | _ => rfl
/-- from a test's run to its value's -/
theorem tT_tE {f : Env → Hs → R D} {σ : Sg} {H : Hp} {Q : Bool → Hp → Prop} (t : tT rc W (fun env h => tst0 (f env h)) σ H Q) :
    tE rc W f σ H fun x H' => ∃ as h d b, SRel rc as h H' ∧ RD rc as H' d x ∧ truthD h d = some b ∧ Q b H' := by
  obtain ⟨as, env, h, E, S, p⟩ := t
  refine ⟨as, env, h, E, S, p.bind.imp fun d as1 h1 H1 s1 S1 p1 v rv => ?_⟩
  obtain ⟨t, et, q⟩ := p1.ofO S1
  exact ⟨as1, h1, d, t, S1, rv, et, q⟩
/-- any expression as a test -/
theorem t_any {f : Env → Hs → R D} (hK : rc.K = X.K) (ha : PE X a (tE rc W f)) (he : ∀ whole, isTrue a X.env whole = (do let v ← whole; standAt a.pos; holding [v] (truthy v))) : PT X a (tT rc W fun env h => tst0 (f env h)) := by
  refine (pt_truth ha he).imp fun σ H Q t => ?_
  obtain ⟨as, env, h, E, S, p⟩ := tT_tE t
  refine ⟨as, env, h, E, S, p.imp fun d as1 h1 H1 s1 S1 p1 v rv => ?_⟩
  obtain ⟨as', h', d', t, S', r', et, q⟩ := p1 v rv
  exact ⟨t, truV hK S' r' et, q⟩
/-- a test at the end of a statement's head: what was laid may be forgotten -/
theorem t_gc {f : Env → Hs → R D} (ha : PT X a (tT rc W fun env h => tst0 (f env h))) : PT X a (tT rc W fun env h => tst h (f env h)) := by
  refine ha.imp ?_
  rintro σ H Q ⟨as, env, h, E, S, p⟩
  refine ⟨as, env, h, E, S, ?_⟩
  show Post rc W σ as H (fun b _ _ H' => Q b H') (tst0 (f env h))
  have p' : Post rc W σ as H (fun b _ _ H' => Q b H') ((gc h (f env h)).bind fun x h => ofO (truthD h x) h) := p
  unfold tst0
  cases e : f env h with
  | ok d h' =>
    rw [e] at p'
    unfold gc at p'
    dsimp only at p'
    split at p'
    · rename_i hz
      simp only [Bool.and_eq_true] at hz
      obtain ⟨z, rfl⟩ := Hs.pre_ok hz.2
      simp only [R.bind_ok] at p' ⊢
      rw [truth_flat (h ++ z) h hz.1]
      cases et : truthD h d with
      | none =>
        rw [et] at p'
        exact p'
      | some t =>
        rw [et] at p'
        intro as1 H1 s1 S1
        obtain ⟨s2, S2⟩ := S.cut s1 S1
        exact p' as H1 s2 S2
    · exact p'
  | exc x h' =>
    rw [e] at p'
    exact p'
  | stuck =>
    rw [e] at p'
    exact p'
theorem t_not {f : Env → Hs → R D} (ha : PT X a (tT rc W fun env h => tst0 (f env h))) : PT X (.UnaryOp .Not a pos) (tT rc W fun env h => tst0 ((f env h).bind fun x h1 => ofO ((truthD h1 x).map fun b => .bool (!b)) h1)) := by
  refine (pt_not ha).imp ?_
  rintro σ H Q ⟨as, env, h, E, S, p⟩
  refine ⟨as, env, h, E, S, ?_⟩
  show Post rc W σ as H (fun b _ _ H' => Q (!b) H') (tst0 (f env h))
  have p' : Post rc W σ as H (fun b _ _ H' => Q b H') (((f env h).bind fun x h1 => ofO ((truthD h1 x).map fun b => D.bool (!b)) h1).bind fun x h => ofO (truthD h x) h) := p
  unfold tst0
  cases e : f env h with
  | ok d h' =>
    rw [e] at p'
    simp only [R.bind_ok] at p' ⊢
    cases et : truthD h' d with
    | none =>
      rw [et] at p'
      exact p'
    | some t =>
      rw [et] at p'
      exact p'
  | exc x h' =>
    rw [e] at p'
    exact p'
  | stuck =>
    rw [e] at p'
    exact p'
theorem e_not (hK : rc.K = X.K) {f : Env → Hs → R D} (ha : PE X a (tE rc W f)) : PE X (.UnaryOp .Not a pos) (tE rc W fun env h => (f env h).bind fun x h1 => ofO ((truthD h1 x).map fun b => .bool (!b)) h1) := by
  refine (pe_notT ha).imp ?_
  rintro σ H Q ⟨as, env, h, E, S, p⟩
  refine ⟨as, env, h, E, S, p.bind.imp fun d as1 h1 H1 s1 S1 p1 v rv => ?_⟩
  obtain ⟨e, e1, q⟩ := p1.ofO S1
  obtain ⟨t, et, rfl⟩ := Option.map_eq_some_iff.mp e1
  exact ⟨t, truV hK S1 rv et, q _ (by simp only [RD])⟩
/-! ### comparisons -/
/-- what a comparison's reading asks -/
theorem i_cmp {fa fb : Env → Hs → R D} {o : D → D → Hs → Option Bool} {σ : Sg} {H : Hp} {Q : VK} (t : tE rc W (fun env h => (fa env h).bind fun x h1 => (fb env h1).bind fun y h2 => ofO ((o x y h2).map D.bool) h2) σ H Q) :
    tOp (rC rc o) (tE rc W fa) (tE rc W fb) σ H fun x H' => ∃ t, x = .bl t ∧ Q x H' := by
  obtain ⟨as, env, h, E, S, p⟩ := t
  refine ⟨as, env, h, E, S, p.bind.imp fun x as1 h1 H1 s1 S1 p1 v rx => ?_⟩
  refine ⟨as1, env, h1, E.mono S s1, S1, p1.bind.imp fun y as2 h2 H2 s2 S2 p2 u ry => ?_⟩
  obtain ⟨e, e1, q⟩ := p2.ofO S2
  obtain ⟨t, et, rfl⟩ := Option.map_eq_some_iff.mp e1
  exact ⟨as2, h2, x, y, t, S2, rx.mono S1 s2, ry, et, t, rfl, q _ (by simp only [RD])⟩
theorem tE.mono {f : Env → Hs → R D} {σ : Sg} {H : Hp} {Q Q' : VK} (k : ∀ x H, Q x H → Q' x H) (t : tE rc W f σ H Q) : tE rc W f σ H Q' := by
  obtain ⟨as, env, h, E, S, p⟩ := t
  exact ⟨as, env, h, E, S, p.imp fun d as1 h1 H1 s1 S1 p1 v rv => k v H1 (p1 v rv)⟩
theorem tOp.monoC {fa fb : Env → Hs → R D} {o : D → D → Hs → Option Bool} {σ : Sg} {H : Hp} {Q Q' : VK} (k : ∀ x H, Q x H → Q' x H) (t : tOp (rC rc o) (tE rc W fa) (tE rc W fb) σ H Q) : tOp (rC rc o) (tE rc W fa) (tE rc W fb) σ H Q' := by
  refine tE.mono (fun x H1 t => ?_) t
  refine tE.mono (fun y H2 t => ?_) t
  obtain ⟨as, h, d, e, b, S, rx, ry, eb, q⟩ := t
  exact ⟨as, h, d, e, b, S, rx, ry, eb, k _ _ q⟩
theorem e_cmp {op : CmpOp} {o : D → D → Hs → Option Bool} {fa fb : Env → Hs → R D} (ho : OpR X (compareOp op) (rC rc o)) (ha : PE X a (tE rc W fa)) (hb : PE X b (tE rc W fb)) (hm : behindInMarks op b = false) :
    PE X (.Compare a [op] [b] pos) (tE rc W fun env h => (fa env h).bind fun x h1 => (fb env h1).bind fun y h2 => ofO ((o x y h2).map D.bool) h2) :=
  (pe_cmpR ho ha hb hm).imp fun σ H Q t => tOp.monoC (fun x H ⟨_, _, q⟩ => q) (i_cmp t)
theorem t_cmp {op : CmpOp} {o : D → D → Hs → Option Bool} {fa fb : Env → Hs → R D} (ho : OpR X (compareOp op) (rC rc o)) (ha : PE X a (tE rc W fa)) (hb : PE X b (tE rc W fb)) (hm : behindInMarks op b = false) :
    PT X (.Compare a [op] [b] pos) (tT rc W fun env h => tst0 ((fa env h).bind fun x h1 => (fb env h1).bind fun y h2 => ofO ((o x y h2).map D.bool) h2)) := by
  refine (pt_cmpR ho ha hb hm).imp fun σ H Q t => tOp.monoC (fun x H q => ?_) (i_cmp (tT_tE t))
  obtain ⟨t, rfl, as, h, d, b, S, r, et, q⟩ := q
  cases d with
  | bool c =>
    simp only [RD] at r
    cases r
    cases et
    exact ⟨_, rfl, q⟩
  | _ => simp [RD] at r
theorem i_chain {fa fb fc : Env → Hs → R D} {o p : D → D → Hs → Option Bool} {σ : Sg} {H : Hp} {Q : VK}
    (t : tE rc W (fun env h => (fa env h).bind fun x h1 => (fb env h1).bind fun y h2 => (ofO (o x y h2) h2).bind fun t h2 => if t then (fc env h2).bind fun z h3 => ofO ((p y z h3).map D.bool) h3 else .ok (.bool false) h2) σ H Q) :
    tChain (rC rc o) (rC rc p) (tE rc W fa) (tE rc W fb) (tE rc W fc) σ H fun x H' => ∃ t, x = .bl t ∧ Q x H' := by
  obtain ⟨as, env, h, E, S, q⟩ := t
  refine ⟨as, env, h, E, S, q.bind.imp fun x as1 h1 H1 s1 S1 p1 v rx => ?_⟩
  refine ⟨as1, env, h1, E.mono S s1, S1, p1.bind.imp fun y as2 h2 H2 s2 S2 p2 u ry => ?_⟩
  obtain ⟨t, et, q2⟩ := p2.bind.ofO S2
  refine ⟨as2, h2, x, y, t, S2, rx.mono S1 s2, ry, et, t, rfl, ?_⟩
  cases t with
  | false => exact ⟨false, rfl, q2.ok S2 _ (by simp only [RD])⟩
  | true =>
    rw [if_pos rfl] at q2 ⊢
    refine ⟨as2, env, h2, (E.mono S s1).mono S1 s2, S2, q2.bind.imp fun z as3 h3 H3 s3 S3 p3 w rz => ?_⟩
    obtain ⟨e, e1, q3⟩ := p3.ofO S3
    obtain ⟨t, et, rfl⟩ := Option.map_eq_some_iff.mp e1
    exact ⟨as3, h3, y, z, t, S3, ry.mono S2 s3, rz, et, t, rfl, q3 _ (by simp only [RD])⟩
theorem tChain.mono {fa fb fc : Env → Hs → R D} {o p : D → D → Hs → Option Bool} {σ : Sg} {H : Hp} {Q Q' : VK} (k : ∀ x H, Q x H → Q' x H)
    (t : tChain (rC rc o) (rC rc p) (tE rc W fa) (tE rc W fb) (tE rc W fc) σ H Q) : tChain (rC rc o) (rC rc p) (tE rc W fa) (tE rc W fb) (tE rc W fc) σ H Q' := by
  refine tE.mono (fun x H1 t => ?_) t
  refine tE.mono (fun y H2 t => ?_) t
  obtain ⟨as, h, d, e, b, S, rx, ry, eb, t, et, q⟩ := t
  refine ⟨as, h, d, e, b, S, rx, ry, eb, t, et, ?_⟩
  split
  · rename_i ht
    rw [if_pos ht] at q
    refine tE.mono (fun z H3 t => ?_) q
    obtain ⟨as, h, d, e, b, S, rx, ry, eb, q⟩ := t
    exact ⟨as, h, d, e, b, S, rx, ry, eb, k _ _ q⟩
  · rename_i ht
    rw [if_neg ht] at q
    exact k _ _ q
theorem e_chain {op op' : CmpOp} {o p : D → D → Hs → Option Bool} {fa fb fc : Env → Hs → R D} (ho : OpR X (compareOp op) (rC rc o)) (hp : OpR X (compareOp op') (rC rc p)) (ha : PE X a (tE rc W fa)) (hb : PE X b (tE rc W fb)) (hc : PE X c (tE rc W fc))
    (hm : lastMarks [op, op'] [b, c] = false) :
    PE X (.Compare a [op, op'] [b, c] pos) (tE rc W (fun env h => (fa env h).bind fun x h1 => (fb env h1).bind fun y h2 => (ofO (o x y h2) h2).bind fun t h2 => if t then (fc env h2).bind fun z h3 => ofO ((p y z h3).map D.bool) h3 else .ok (.bool false) h2)) :=
  (pe_chain ho hp ha hb hc hm).imp fun σ H Q t => tChain.mono (fun x H ⟨_, _, q⟩ => q) (i_chain t)
theorem t_chain {op op' : CmpOp} {o p : D → D → Hs → Option Bool} {fa fb fc : Env → Hs → R D} (ho : OpR X (compareOp op) (rC rc o)) (hp : OpR X (compareOp op') (rC rc p)) (ha : PE X a (tE rc W fa)) (hb : PE X b (tE rc W fb)) (hc : PE X c (tE rc W fc))
    (hm : lastMarks [op, op'] [b, c] = false) :
    PT X (.Compare a [op, op'] [b, c] pos) (tT rc W fun env h => tst0 ((fa env h).bind fun x h1 => (fb env h1).bind fun y h2 => (ofO (o x y h2) h2).bind fun t h2 => if t then (fc env h2).bind fun z h3 => ofO ((p y z h3).map D.bool) h3 else .ok (.bool false) h2)) := by
  refine (pt_chain ho hp ha hb hc hm).imp fun σ H Q t => tChain.mono (fun x H q => ?_) (i_chain (tT_tE t))
  obtain ⟨t, rfl, as, h, d, b, S, r, et, q⟩ := q
  cases d with
  | bool c =>
    simp only [RD] at r
    cases r
    cases et
    exact ⟨_, rfl, q⟩
  | _ => simp [RD] at r
/-! ### x if t else y -/
theorem Post.tst {α : Type} {P : α → List Addr → Hs → Hp → Prop} {g : Bool → Hs → R α} {σ : Sg} {as : List Addr} {H : Hp} {h : Hs} {r : R D} (S : SRel rc as h H) (p : Post rc W σ as H P ((tst h r).bind g)) :
    Post rc W σ as H (fun c _ _ H' => ∃ as'' h'', Stp as H as'' H' ∧ SRel rc as'' h'' H' ∧ Post rc W σ as'' H' P (g c h'')) (tst0 r) := by
  unfold tst0
  unfold MI.tst at p
  cases r with
  | ok d h' =>
    unfold MI.gc at p
    dsimp only at p
    split at p
    · rename_i hz
      simp only [Bool.and_eq_true] at hz
      obtain ⟨z, rfl⟩ := Hs.pre_ok hz.2
      simp only [R.bind_ok] at p ⊢
      rw [truth_flat (h ++ z) h hz.1]
      cases et : truthD h d with
      | none =>
        rw [et] at p
        exact p
      | some t =>
        rw [et] at p
        intro as1 H1 s1 S1
        obtain ⟨s2, S2⟩ := S.cut s1 S1
        exact ⟨as, h, s2, S2, Post.from s2 p⟩
    · simp only [R.bind_ok] at p ⊢
      cases et : truthD h' d with
      | none =>
        rw [et] at p
        exact p
      | some t =>
        rw [et] at p
        intro as1 H1 s1 S1
        exact ⟨as1, h', s1, S1, Post.from s1 p⟩
  | exc x h' => exact p
  | stuck => exact p
theorem e_ife {ft fa fb : Env → Hs → R D} (ht : PT X c (tT rc W fun env h => tst0 (ft env h))) (ha : PE X a (tE rc W fa)) (hb : PE X b (tE rc W fb)) :
    PE X (.IfExp c a b pos) (tE rc W fun env h => (tst h (ft env h)).bind fun t h1 => if t then fa env h1 else fb env h1) := by
  refine (pe_ifExp ht ha hb).imp ?_
  rintro σ H Q ⟨as, env, h, E, S, p⟩
  refine ⟨as, env, h, E, S, (p.tst S).imp ?_⟩
  rintro t _ _ H1 _ _ ⟨as2, h2, s2, S2, p2⟩
  cases t with
  | true => exact ⟨as2, env, h2, E.mono S s2, S2, p2⟩
  | false => exact ⟨as2, env, h2, E.mono S s2, S2, p2⟩
/-! ### lists of arguments -/
theorem a_nil : PA X [] (tA rc W (evEs .nil k)) := by
  refine pa_nil.imp ?_
  rintro σ H Q ⟨as, env, h, E, S, p⟩
  simp only [evEs] at p
  exact p.ok S [] RDs.nil
theorem a_cons {es : List Expr} {x : E} {xs : Es} (ha : PE X a (tE rc W (evE x k))) (hr : PA X es (tA rc W (evEs xs k))) (hs : starEach (a :: es) X.env = (false, eval a X.env) :: starEach es X.env) : PA X (a :: es) (tA rc W (evEs (.cons x xs) k)) := by
  refine (pa_cons ha hr hs).imp ?_
  rintro σ H Q ⟨as, env, h, E, S, p⟩
  simp only [evEs] at p
  refine ⟨as, env, h, E, S, p.bind.imp fun d as1 h1 H1 s1 S1 p1 v rv => ?_⟩
  refine ⟨as1, env, h1, E.mono S s1, S1, p1.bind.imp fun ds as2 h2 H2 s2 S2 p2 vs rs => ?_⟩
  exact p2.ok S2 _ (RDs.cons (rv.mono S1 s2) rs)
/-! ### and, or -/
theorem e_bop1 {x : E} {op : BoolOp} {t : Bool} (ha : PE X a (tE rc W (evE x k))) : PE X (.BoolOp op [a] pos) (tE rc W (evB t (.cons x .nil) k)) := by
  refine (pe_one ha).imp fun σ H Q t => ?_
  obtain ⟨as, env, h, E, S, p⟩ := t
  simp only [evB] at p
  exact ⟨as, env, h, E, S, p⟩
def bopPy (t : Bool) : BoolOp := if t then .And else .Or
theorem e_bop {x y : E} {xs : Es} {b : Expr} {rest : List Expr} (hK : rc.K = X.K) : ∀ {t : Bool}, PE X a (tE rc W (evE x k)) → PE X (.BoolOp (bopPy t) (b :: rest) pos) (tE rc W (evB t (.cons y xs) k)) → PE X (.BoolOp (bopPy t) (a :: b :: rest) pos) (tE rc W (evB t (.cons x (.cons y xs)) k))
  | true, ha, hb => by
    refine (pe_andT ha hb).imp ?_
    rintro σ H Q ⟨as, env, h, E, S, p⟩
    rw [evB] at p
    refine ⟨as, env, h, E, S, p.bind.imp fun d as1 h1 H1 s1 S1 p1 v rv => ?_⟩
    obtain ⟨c, et, p2⟩ := p1.bind.ofO S1
    refine ⟨c, truV hK S1 rv et, ?_⟩
    cases c with
    | true => exact ⟨as1, env, h1, E.mono S s1, S1, p2⟩
    | false => exact p2.ok S1 _ rv
  | false, ha, hb => by
    refine (pe_orT ha hb).imp ?_
    rintro σ H Q ⟨as, env, h, E, S, p⟩
    rw [evB] at p
    refine ⟨as, env, h, E, S, p.bind.imp fun d as1 h1 H1 s1 S1 p1 v rv => ?_⟩
    obtain ⟨c, et, p2⟩ := p1.bind.ofO S1
    refine ⟨c, truV hK S1 rv et, ?_⟩
    cases c with
    | true => exact p2.ok S1 _ rv
    | false => exact ⟨as1, env, h1, E.mono S s1, S1, p2⟩
theorem t_bop1 {x : E} {t : Bool} (ha : PT X a (tT rc W fun env h => tst0 (evE x k env h))) : PW X (.BoolOp (bopPy t) [a] pos) (tT rc W fun env h => tst0 (evB t (.cons x .nil) k env h)) := by
  have e : (fun (env : Env) (h : Hs) => tst0 (evB t (.cons x .nil) k env h)) = fun env h => tst0 (evE x k env h) := by
    funext env h
    rw [evB]
  rw [e]
  cases t with
  | true => exact pw_and1 ha
  | false => exact pw_or1 ha
/-- a value's truth, then the rest -/
theorem Post.tst0b {α : Type} {P : α → List Addr → Hs → Hp → Prop} {g : D → Hs → Bool → R α} {σ : Sg} {as : List Addr} {H : Hp} {r : R D} (p : Post rc W σ as H P (r.bind fun x h1 => (MI.ofO (truthD h1 x) h1).bind fun b h1 => g x h1 b)) :
    Post rc W σ as H (fun c as1 h1 H1 => ∃ x, truthD h1 x = some c ∧ Post rc W σ as1 H1 P (g x h1 c)) (tst0 r) := by
  unfold tst0
  cases r with
  | ok d h' =>
    simp only [R.bind_ok] at p ⊢
    cases et : truthD h' d with
    | none =>
      rw [et] at p
      exact p
    | some t =>
      rw [et] at p
      intro as1 H1 s1 S1
      exact ⟨d, et, Post.from s1 p⟩
  | exc x h' => exact p
  | stuck => exact p
theorem _root_.L2.PW.imp {X : Cx} {e : Expr} {t t' : TT} (p : PW X e t) (k : ∀ σ H Q, t' σ H Q → t σ H Q) : PW X e t' := ⟨fun wh pins s σ H Q I h => p.run wh pins s σ H Q I (k σ H Q h)⟩
theorem bind_bind {α β γ : Type} (r : R α) (f : α → Hs → R β) (g : β → Hs → R γ) : (r.bind f).bind g = r.bind fun a h => (f a h).bind g := by cases r <;> rfl
theorem t_bop {x y : E} {xs : Es} {b : Expr} {rest : List Expr} : ∀ {t : Bool}, PT X a (tT rc W fun env h => tst0 (evE x k env h)) → PW X (.BoolOp (bopPy t) (b :: rest) pos) (tT rc W fun env h => tst0 (evB t (.cons y xs) k env h)) →
    PW X (.BoolOp (bopPy t) (a :: b :: rest) pos) (tT rc W fun env h => tst0 (evB t (.cons x (.cons y xs)) k env h))
  | true, ha, hb => by
    refine (pw_and ha hb).imp ?_
    rintro σ H Q ⟨as, env, h, E, S, p⟩
    have p' : Post rc W σ as H (fun b _ _ H' => Q b H') ((evE x k env h).bind fun x h1 => (ofO (truthD h1 x) h1).bind fun b h1 => if b == true then tst0 (evB true (.cons y xs) k env h1) else tst0 (.ok x h1)) := by
      have q := p
      simp only [evB, tst0, bind_bind] at q ⊢
      refine Eq.mp (congrArg _ ?_) q
      congr 1
      funext x h1
      congr 1
      funext b h1
      cases b <;> rfl
    refine ⟨as, env, h, E, S, p'.tst0b.imp ?_⟩
    rintro c as1 h1 H1 s1 S1 ⟨d, et, p2⟩
    cases c with
    | true => exact ⟨as1, env, h1, E.mono S s1, S1, p2⟩
    | false =>
      have p3 : Post rc W σ as1 H1 (fun b _ _ H' => Q b H') (tst0 (.ok d h1)) := p2
      unfold tst0 at p3
      rw [R.bind_ok, et] at p3
      exact p3.ok S1
  | false, ha, hb => by
    refine (pw_or ha hb).imp ?_
    rintro σ H Q ⟨as, env, h, E, S, p⟩
    have p' : Post rc W σ as H (fun b _ _ H' => Q b H') ((evE x k env h).bind fun x h1 => (ofO (truthD h1 x) h1).bind fun b h1 => if b == false then tst0 (evB false (.cons y xs) k env h1) else tst0 (.ok x h1)) := by
      have q := p
      simp only [evB, tst0, bind_bind] at q ⊢
      refine Eq.mp (congrArg _ ?_) q
      congr 1
      funext x h1
      congr 1
      funext b h1
      cases b <;> rfl
    refine ⟨as, env, h, E, S, p'.tst0b.imp ?_⟩
    rintro c as1 h1 H1 s1 S1 ⟨d, et, p2⟩
    cases c with
    | false => exact ⟨as1, env, h1, E.mono S s1, S1, p2⟩
    | true =>
      have p3 : Post rc W σ as1 H1 (fun b _ _ H' => Q b H') (tst0 (.ok d h1)) := p2
      unfold tst0 at p3
      rw [R.bind_ok, et] at p3
      exact p3.ok S1
/-! ### displays -/
theorem e_tup {es : List Expr} {xs : Es} {n : Nat} (ha : PA X es (tA rc W (evEs xs k))) (hz : es.length ≤ sizeLine) (hn : ∀ c env h as h', evEs xs c env h = .ok as h' → as.length ≤ es.length) : PE X (.Tuple es n pos) (tE rc W (evE (.tup xs) k)) := by
  refine (pe_tup ha).imp ?_
  rintro σ H Q ⟨as, env, h, E, S, p⟩
  rw [evE] at p
  cases e : evEs xs k env h with
  | ok ds h' =>
    rw [e] at p
    refine ⟨as, env, h, E, S, ?_⟩
    rw [e]
    intro as1 H1 s1 S1 vs rs
    have hl := hn k env h ds h' e
    rw [rs.length] at hl
    refine ⟨Nat.le_trans hl hz, fun q hq => ?_⟩
    obtain ⟨s2, S2, r2⟩ := newTup S1 rs hq
    exact p as1 _ (s1.trans s2) S2 _ r2
  | exc x h' =>
    rw [e] at p
    exact ⟨as, env, h, E, S, by rw [e]; exact p⟩
  | stuck =>
    rw [e] at p
    exact p.elim
/-- what was not there before -/
theorem Stp.was {as as1 : List Addr} {H H1 : Hp} {h1 : Hs} (s : Stp as H as1 H1) (S1 : SRel rc as1 h1 H1) {q : Addr} (hq : H1 q = none) : Nw H q := fun o e0 => by
  by_cases ht : ∃ ps, o = .tbl ps
  · exact ht
  · exfalso
    by_cases hm : q ∈ as
    · obtain ⟨z, rfl⟩ := s.pre
      exact S1.free hq (List.mem_append_left _ hm)
    · rw [s.ext q o e0 (.inl hm) fun ps e => ht ⟨ps, e⟩] at hq
      cases hq
theorem l_disp {es : List Expr} {xs : Es} (ha : PA X es (tA rc W (evEs xs k))) (hz : es.length ≤ sizeLine) (hn : ∀ c env h as h', evEs xs c env h = .ok as h' → as.length ≤ es.length) : PE X (.List es pos) (tL rc W (evL (.disp xs) k)) := by
  refine (pe_lst ha).imp ?_
  rintro σ H Q ⟨as, env, h, E, S, p⟩
  rw [evL] at p
  cases e : evEs xs k env h with
  | ok ds h' =>
    rw [e] at p
    refine ⟨as, env, h, E, S, ?_⟩
    rw [e]
    intro as1 H1 s1 S1 vs rs
    have hl := hn k env h ds h' e
    rw [rs.length] at hl
    refine ⟨Nat.le_trans hl hz, fun q hq => ?_⟩
    obtain ⟨s2, S2⟩ := newObj (o := .lst vs) S1 hq
    exact p as1 _ (s1.trans s2) S2 q vs upd_same (S1.free hq) (s1.was S1 hq) (rs.mono S1 s2)
  | exc x h' =>
    rw [e] at p
    exact ⟨as, env, h, E, S, by rw [e]; exact p⟩
  | stuck =>
    rw [e] at p
    exact p.elim
/-- a list just made becomes a cell -/
theorem adopt {as as1 : List Addr} {H H1 : Hp} {h1 : Hs} {ds : List D} {vs : List V} (s : Stp as H as1 H1) (S1 : SRel rc as1 h1 H1) {q : Addr} (e : H1 q = some (.lst vs)) (nq : q ∉ as1) (h0 : Nw H q) (r : RDs rc as1 H1 ds vs) :
    Stp as H (as1 ++ [q]) H1 ∧ SRel rc (as1 ++ [q]) (h1 ++ [.list ds]) H1 ∧ RD rc (as1 ++ [q]) H1 (.ref h1.length) (.ref q) := by
  have kp : Kp as1 H1 (as1 ++ [q]) H1 := ⟨⟨[q], rfl⟩, fun b hb => (List.mem_append.mp hb).imp id (fun z φ => by rw [List.mem_singleton.mp z, e]; exact fun z => nomatch z), fun b o e _ _ _ => e⟩
  refine ⟨⟨?_, fun b hb => ?_, s.ext⟩, ⟨S1.tab, by simp [S1.len], ?_, fun n mo a e1 e2 => ?_⟩, ?_⟩
  · obtain ⟨z, rfl⟩ := s.pre
    exact ⟨z ++ [q], by rw [List.append_assoc]⟩
  · rcases List.mem_append.mp hb with z | z
    · exact s.new b z
    · rw [List.mem_singleton.mp z]
      exact .inr h0
  · exact List.nodup_append.mpr ⟨S1.nd, by simp, fun a ha b hb => by
      rw [List.mem_singleton.mp hb]
      intro e
      exact nq (e ▸ ha)⟩
  · by_cases hn : n < h1.length
    · rw [List.getElem?_append_left hn] at e1
      rw [List.getElem?_append_left (by rw [S1.len]; exact hn)] at e2
      exact (S1.ok n mo a e1 e2).mono' kp rfl
    · rw [List.getElem?_append_right (by omega)] at e1
      rw [List.getElem?_append_right (by rw [S1.len]; omega), S1.len] at e2
      cases hk : n - h1.length with
      | zero =>
        rw [hk] at e1 e2
        simp at e1 e2
        subst e1 e2
        exact ⟨vs, e, r.mono' kp⟩
      | succ k =>
        rw [hk] at e1
        simp at e1
  · simp only [RD]
    refine ⟨q, rfl, ?_⟩
    rw [← S1.len]
    simp
theorem e_new {l : L} (ha : PE X a (tL rc W (evL l k))) : PE X a (tE rc W (evE (.new l) k)) := by
  refine ha.imp ?_
  rintro σ H Q ⟨as, env, h, E, S, p⟩
  rw [evE] at p
  cases e : evL l k env h with
  | ok ds h' =>
    rw [e] at p
    refine ⟨as, env, h, E, S, ?_⟩
    rw [e]
    intro as1 H1 s1 S1 q vs eq nq h0 rs
    obtain ⟨s2, S2, r2⟩ := adopt s1 S1 eq nq h0 rs
    exact p _ _ s2 S2 _ r2
  | exc x h' =>
    rw [e] at p
    exact ⟨as, env, h, E, S, by rw [e]; exact p⟩
  | stuck =>
    rw [e] at p
    exact p.elim
end
end MI
end
section
/-! MG: calls of built-ins, subscripts, slices, methods of lists. -/
namespace MI
open PySem PySem.Spec PyProof.Rows L2
section
variable {X : Cx} {rc : Rc} {W : WX} {a b c : Expr} {pos p apos : Pos} {k : Ct} {fx : Str}
/-- a call's head: no star -/
def noStar : List Expr → Bool
  | [] => true
  | .Starred .. :: _ => false
  | _ :: es => noStar es
theorem star_cons {e : Expr} {es : List Expr} {env : PySem.Env} (h : noStar (e :: es) = true) : starEach (e :: es) env = (false, eval e env) :: starEach es env := by
  cases e <;> first
    | rfl
    | (simp [noStar] at h)
theorem noStar_tail {e : Expr} {es : List Expr} (h : noStar (e :: es) = true) : noStar es = true := by
  cases e <;> first
    | exact h
    | (simp [noStar] at h)
theorem star_plain {env : PySem.Env} : ∀ {es : List Expr}, noStar es = true → (backTo pos (starEach es env)).any (·.1) = false
  | [], _ => rfl
  | e :: es, h => by
    rw [star_cons h]
    have ih := star_plain (env := env) (noStar_tail h)
    unfold backTo at ih ⊢
    simpa using ih
/-- the name of a built-in, as it is booted -/
structure Blt (X : Cx) (x : Str) (v : Value) : Prop where
  gl : Gl X x
  free : X.mg x = none
  boot : bootBuiltins x = some v
  ne : x ≠ "__name__"
  db : (x == ("__debug__" : Str)) = false
theorem e_call1 {id : String} {r : List V → Hp → VK → Prop} {ta : TE} (hc : CallR X (.builtin id) r) (B : Blt X fx (.builtin id)) (ha : PE X a ta) (hs : noStar [a] = true) : PE X (.Call (.Name fx p) [a] [] pos) (tCB r (tCons ta tNil)) :=
  pe_callB hc B.gl B.free B.boot (pa_cons ha pa_nil (star_cons hs)) B.ne B.db (star_cons hs) rfl
theorem e_callT1 {T : String} {r : List V → Hp → VK → Prop} {ta : TE} (hc : CallR X (.type T) r) (B : Blt X fx (.type T)) (ha : PE X a ta) (hs : noStar [a] = true) : PE X (.Call (.Name fx p) [a] [] pos) (tCB r (tCons ta tNil)) :=
  pe_callTy hc B.gl B.free B.boot (pa_cons ha pa_nil (star_cons hs)) B.ne B.db (star_cons hs) rfl
theorem e_call2 {id : String} {r : List V → Hp → VK → Prop} {ta tb : TE} (hc : CallR X (.builtin id) r) (B : Blt X fx (.builtin id)) (ha : PE X a ta) (hb : PE X b tb) (hs : noStar [a, b] = true) : PE X (.Call (.Name fx p) [a, b] [] pos) (tCB r (tCons ta (tCons tb tNil))) :=
  pe_callB hc B.gl B.free B.boot (pa_cons ha (pa_cons hb pa_nil (star_cons (noStar_tail hs))) (star_cons hs)) B.ne B.db (star_cons hs) (star_plain (noStar_tail hs))
/-! ### built-ins of one value -/
theorem i_f1 {f : F1} {x : E} {σ : Sg} {H : Hp} {Q : VK} (t : tE rc W (evE (.f1 f x) k) σ H Q) : tCB (rF rc f.run) (tCons (tE rc W (evE x k)) tNil) σ H Q := by
  obtain ⟨as, env, h, E, S, p⟩ := t
  rw [evE] at p
  refine ⟨as, env, h, E, S, p.bind.imp fun d as1 h1 H1 s1 S1 p1 v rv => ?_⟩
  obtain ⟨e, ee, q⟩ := p1.ofO S1
  exact ⟨as1, h1, d, v, e, rfl, S1, rv, ee, q⟩
theorem c_len (hK : rc.K = X.K) : CallR X (.builtin "len") (rF rc F1.len.run) := by
  rintro pins s σ H xs us Q I r ⟨as, h, d, v, e, rfl, S, rd, ef, q⟩
  have ef2 : (lenD h d).map (fun n : Nat => D.int (n : Int)) = some e := by
    cases d <;> exact ef
  obtain ⟨n, en, rfl⟩ := Option.map_eq_some_iff.mp ef2
  refine call_len pins s σ H _ us Q I r ⟨v, n, rfl, ?_, q _ (by simp only [RD])⟩
  unfold lenD at en
  split at en
  · rename_i xs
    simp only [RD] at rd
    obtain ⟨a, vs, rfl, qa, rs⟩ := rd
    exact .inr ⟨vs, hK ▸ qa, by rw [← rs.length]; exact (Option.some.inj en).symm⟩
  · rename_i z
    simp only [RD] at rd
    subst rd
    split at en
    · rename_i hz
      exact ⟨hz, (Option.some.inj en).symm⟩
    · cases en
  · rename_i m
    split at en
    · rename_i xs hm
      obtain ⟨a, vs, rfl, ea, qa, rs⟩ := S.list hm rd
      exact .inl ⟨vs, .of qa, by rw [← rs.length]; exact (Option.some.inj en).symm⟩
    · rename_i kvs hm
      simp only [RD] at rd
      obtain ⟨a, rfl, ea⟩ := rd
      exact (S.ok m _ a hm ea).elim
    · cases en
  · cases en
/-- which built-in it is -/
def F1.py : F1 → Value
  | .abs => .builtin "abs" | .int => .type "int" | .str => .type "str" | .repr => .builtin "repr" | .len => .builtin "len"
def F1.nm : F1 → Str
  | .abs => "abs" | .int => "int" | .str => "str" | .repr => "repr" | .len => "len"
theorem F1.boot : ∀ f : F1, bootBuiltins f.nm = some f.py
  | .abs => by decide +kernel
  | .int => by decide +kernel
  | .str => by decide +kernel
  | .repr => by decide +kernel
  | .len => by decide +kernel
theorem e_f1 {f : F1} {x : E} (hK : rc.K = X.K) (hu : X.A.units + 66 < cLine) (hg : X.A.guards = some []) (B : Blt X fx f.py) (ha : PE X a (tE rc W (evE x k))) (hs : noStar [a] = true) : PE X (.Call (.Name fx p) [a] [] pos) (tE rc W (evE (.f1 f x) k)) := by
  cases f with
  | abs => exact (e_call1 c_abs B ha hs).imp fun σ H Q t => i_f1 t
  | int => exact (e_callT1 c_int B ha hs).imp fun σ H Q t => i_f1 t
  | str => exact (e_callT1 c_str B ha hs).imp fun σ H Q t => i_f1 t
  | repr => exact (e_call1 (c_repr hK hu hg) B ha hs).imp fun σ H Q t => i_f1 t
  | len => exact (e_call1 (c_len hK) B ha hs).imp fun σ H Q t => i_f1 t
/-! ### min(a, b), max(a, b) -/
theorem i_f2 {f : F2} {x y : E} {σ : Sg} {H : Hp} {Q : VK} (t : tE rc W (evE (.f2 f x y) k) σ H Q) : tCB (rF2 rc f.run) (tCons (tE rc W (evE x k)) (tCons (tE rc W (evE y k)) tNil)) σ H Q := by
  obtain ⟨as, env, h, E, S, p⟩ := t
  rw [evE] at p
  refine ⟨as, env, h, E, S, p.bind.imp fun d as1 h1 H1 s1 S1 p1 v rv => ?_⟩
  refine ⟨as1, env, h1, E.mono S s1, S1, p1.bind.imp fun d2 as2 h2 H2 s2 S2 p2 u ru => ?_⟩
  obtain ⟨e, ee, q⟩ := p2.ofO S2
  exact ⟨as2, h2, d, d2, v, u, e, rfl, S2, rv.mono S1 s2, ru, ee, q⟩
def F2.nm : F2 → Str
  | .min => "min" | .max => "max"
def F2.py : F2 → Value
  | .min => .builtin "min" | .max => .builtin "max"
theorem F2.boot : ∀ f : F2, bootBuiltins f.nm = some f.py
  | .min => by decide +kernel
  | .max => by decide +kernel
theorem e_f2 {f : F2} {x y : E} (hc : X.calm = true) (B : Blt X fx f.py) (ha : PE X a (tE rc W (evE x k))) (hb : PE X b (tE rc W (evE y k))) (hs : noStar [a, b] = true) : PE X (.Call (.Name fx p) [a, b] [] pos) (tE rc W (evE (.f2 f x y) k)) := by
  cases f with
  | min => exact (e_call2 (c_min2 hc) B ha hb hs).imp fun σ H Q t => i_f2 t
  | max => exact (e_call2 (c_max2 hc) B ha hb hs).imp fun σ H Q t => i_f2 t
/-! ### built-ins of a list -/
/-- a list (a tuple, where tup is so) as a built-in's argument -/
def rS (rc : Rc) (tup : Bool) (f : List D → Option D) : List V → Hp → VK → Prop := fun xs H Q =>
  ∃ as h a vs ds e, xs = [.ref a] ∧ (SqL rc.K H a vs ∨ (tup = true ∧ SqT rc.K H a vs)) ∧ SRel rc as h H ∧ RDs rc as H ds vs ∧ f ds = some e ∧ ∀ H' u, Stp as H as H' → SRel rc as h H' → RD rc as H' e u → Q u H'
theorem minI_least {m : Int} : ∀ {ns : List Int}, m ∈ ns → (∀ y ∈ ns, m ≤ y) → minI ns = some m := by
  intro ns hm hl
  cases ns with
  | nil => cases hm
  | cons x xs =>
    show some _ = some m
    have gen : ∀ (xs : List Int) (x : Int), m ∈ x :: xs → (∀ y ∈ x :: xs, m ≤ y) → xs.foldl (fun a b => if b < a then b else a) x = m := by
      intro xs
      induction xs with
      | nil =>
        intro x h1 _
        simpa using (List.mem_singleton.mp h1).symm
      | cons z zs ih =>
        intro x h1 h2
        rw [List.foldl_cons]
        have hx := h2 x List.mem_cons_self
        have hz := h2 z (List.mem_cons_of_mem _ List.mem_cons_self)
        apply ih
        · rcases List.mem_cons.mp h1 with e | h1
          · subst e
            rw [if_neg (by omega)]
            exact List.mem_cons_self
          · rcases List.mem_cons.mp h1 with e | h1
            · subst e
              split
              · exact List.mem_cons_self
              · have : x = m := by omega
                rw [this]
                exact List.mem_cons_self
            · exact List.mem_cons_of_mem _ h1
        · intro y hy
          rcases List.mem_cons.mp hy with e | hy
          · subst e
            split <;> assumption
          · exact h2 y (List.mem_cons_of_mem _ (List.mem_cons_of_mem _ hy))
    rw [gen xs x hm hl]
theorem maxI_most {m : Int} : ∀ {ns : List Int}, m ∈ ns → (∀ y ∈ ns, y ≤ m) → maxI ns = some m := by
  intro ns hm hl
  cases ns with
  | nil => cases hm
  | cons x xs =>
    show some _ = some m
    have gen : ∀ (xs : List Int) (x : Int), m ∈ x :: xs → (∀ y ∈ x :: xs, y ≤ m) → xs.foldl (fun a b => if b > a then b else a) x = m := by
      intro xs
      induction xs with
      | nil =>
        intro x h1 _
        simpa using (List.mem_singleton.mp h1).symm
      | cons z zs ih =>
        intro x h1 h2
        rw [List.foldl_cons]
        have hx := h2 x List.mem_cons_self
        have hz := h2 z (List.mem_cons_of_mem _ List.mem_cons_self)
        apply ih
        · rcases List.mem_cons.mp h1 with e | h1
          · subst e
            rw [if_neg (by omega)]
            exact List.mem_cons_self
          · rcases List.mem_cons.mp h1 with e | h1
            · subst e
              split
              · exact List.mem_cons_self
              · have : x = m := by omega
                rw [this]
                exact List.mem_cons_self
            · exact List.mem_cons_of_mem _ h1
        · intro y hy
          rcases List.mem_cons.mp hy with e | hy
          · subst e
            split <;> assumption
          · exact h2 y (List.mem_cons_of_mem _ (List.mem_cons_of_mem _ hy))
    rw [gen xs x hm hl]
theorem mem_ints {n : Int} {ns : List Int} (h : (minI ns).isSome = true ∨ (maxI ns).isSome = true) : 0 < ns.length := by
  cases ns with
  | nil => simp [minI, maxI] at h
  | cons x xs => simp
def FL.py : FL → Value
  | .tuple => .type "tuple" | .all => .builtin "all" | .any => .builtin "any" | .sum => .builtin "sum" | .min => .builtin "min" | .max => .builtin "max" | .len => .builtin "len"
def FL.nm : FL → Str
  | .tuple => "tuple" | .all => "all" | .any => "any" | .sum => "sum" | .min => "min" | .max => "max" | .len => "len"
theorem FL.boot : ∀ f : FL, bootBuiltins f.nm = some f.py
  | .tuple => by decide +kernel
  | .all => by decide +kernel
  | .any => by decide +kernel
  | .sum => by decide +kernel
  | .min => by decide +kernel
  | .max => by decide +kernel
  | .len => by decide +kernel
def FL.isT : FL → Bool
  | .tuple => true
  | _ => false
theorem c_fl (hK : rc.K = X.K) (hc : X.calm = true) : ∀ f : FL, CallR X f.py (rS rc f.isT f.run)
  | .tuple => by
    rintro pins s σ H xs us Q I r ⟨as, h, a, vs, ds, e, rfl, sq, S, rs, ef, q⟩
    cases ef
    refine call_tuple_of pins s σ H _ us Q I r ⟨a, vs, rfl, ?_⟩
    rcases sq with sq | ⟨_, sq⟩
    · refine .inl ⟨hK ▸ sq, fun l hl => ?_⟩
      obtain ⟨s2, S2, r2⟩ := newTup S rs hl
      exact q _ _ s2 S2 r2
    · refine .inr ⟨hK ▸ sq, q _ _ .refl S ?_⟩
      simp only [RD]
      exact ⟨a, vs, rfl, sq, rs⟩
  | .all => by
    rintro pins s σ H xs us Q I r ⟨as, h, a, vs, ds, e, rfl, sq, S, rs, ef, q⟩
    obtain ⟨bs, eb, rfl⟩ := Option.map_eq_some_iff.mp (show (boolsD ds).map (fun bs => D.bool (bs.all id)) = some e from ef)
    have ev := boolsD_ok rs eb
    subst ev
    rcases sq with sq | ⟨z, _⟩
    · exact cr_all hc pins s σ H _ us Q I r ⟨a, bs, rfl, hK ▸ sq, q _ _ .refl S (by simp only [RD])⟩
    · cases z
  | .any => by
    rintro pins s σ H xs us Q I r ⟨as, h, a, vs, ds, e, rfl, sq, S, rs, ef, q⟩
    obtain ⟨bs, eb, rfl⟩ := Option.map_eq_some_iff.mp (show (boolsD ds).map (fun bs => D.bool (bs.any id)) = some e from ef)
    have ev := boolsD_ok rs eb
    subst ev
    rcases sq with sq | ⟨z, _⟩
    · exact cr_any hc pins s σ H _ us Q I r ⟨a, bs, rfl, hK ▸ sq, q _ _ .refl S (by simp only [RD])⟩
    · cases z
  | .sum => by
    rintro pins s σ H xs us Q I r ⟨as, h, a, vs, ds, e, rfl, sq, S, rs, ef, q⟩
    obtain ⟨ns, eb, rfl⟩ := Option.map_eq_some_iff.mp (show (intsD ds).map (fun ns => D.int ns.sum) = some e from ef)
    have ev := intsD_ok rs eb
    subst ev
    rcases sq with sq | ⟨z, _⟩
    · exact cr_sum hc pins s σ H _ us Q I r ⟨a, ns, rfl, hK ▸ sq, q _ _ .refl S (by simp only [RD])⟩
    · cases z
  | .min => by
    rintro pins s σ H xs us Q I r ⟨as, h, a, vs, ds, e, rfl, sq, S, rs, ef, q⟩
    obtain ⟨ns, eb, em⟩ := Option.bind_eq_some_iff.mp (show (intsD ds).bind (fun ns => (minI ns).map D.int) = some e from ef)
    obtain ⟨m, em2, rfl⟩ := Option.map_eq_some_iff.mp em
    have ev := intsD_ok rs eb
    subst ev
    rcases sq with sq | ⟨z, _⟩
    · refine cr_min hc pins s σ H _ us Q I r ⟨a, ns, rfl, hK ▸ sq, mem_ints (n := 0) (.inl (by rw [em2]; rfl)), fun m' h1 h2 => ?_⟩
      rw [minI_least h1 h2] at em2
      cases em2
      exact q _ _ .refl S (by simp only [RD])
    · cases z
  | .max => by
    rintro pins s σ H xs us Q I r ⟨as, h, a, vs, ds, e, rfl, sq, S, rs, ef, q⟩
    obtain ⟨ns, eb, em⟩ := Option.bind_eq_some_iff.mp (show (intsD ds).bind (fun ns => (maxI ns).map D.int) = some e from ef)
    obtain ⟨m, em2, rfl⟩ := Option.map_eq_some_iff.mp em
    have ev := intsD_ok rs eb
    subst ev
    rcases sq with sq | ⟨z, _⟩
    · refine cr_max hc pins s σ H _ us Q I r ⟨a, ns, rfl, hK ▸ sq, mem_ints (n := 0) (.inr (by rw [em2]; rfl)), fun m' h1 h2 => ?_⟩
      rw [maxI_most h1 h2] at em2
      cases em2
      exact q _ _ .refl S (by simp only [RD])
    · cases z
  | .len => by
    rintro pins s σ H xs us Q I r ⟨as, h, a, vs, ds, e, rfl, sq, S, rs, ef, q⟩
    cases ef
    rcases sq with sq | ⟨z, _⟩
    · exact call_len pins s σ H _ us Q I r ⟨_, ds.length, rfl, .inl ⟨vs, hK ▸ sq, rs.length⟩, q _ _ .refl S (by simp only [RD])⟩
    · cases z
/-- the argument's reading -/
theorem i_flL {f : FL} {l : L} {σ : Sg} {H : Hp} {Q : VK} (t : tE rc W (evE (.fl f (.l l)) k) σ H Q) : tCB (rS rc f.isT f.run) (tCons (tL rc W (evL l k)) tNil) σ H Q := by
  obtain ⟨as, env, h, E, S, p⟩ := t
  rw [evE, evA] at p
  refine ⟨as, env, h, E, S, p.bind.imp fun ds as1 h1 H1 s1 S1 p1 a vs ea na h0 rs => ?_⟩
  obtain ⟨e, ee, q⟩ := p1.ofO' S1
  exact ⟨as1, h1, a, vs, ds, e, rfl, .inl (.of ea), S1, rs, ee, fun H' u s2 S2 r2 => q as1 H' s2 S2 u r2⟩
theorem i_flE {f : FL} {x : E} {σ : Sg} {H : Hp} {Q : VK} (t : tE rc W (evE (.fl f (.e x)) k) σ H Q) : tCB (rS rc f.isT f.run) (tCons (tE rc W (evE x k)) tNil) σ H Q := by
  obtain ⟨as, env, h, E, S, p⟩ := t
  rw [evE, evA, bind_bind] at p
  refine ⟨as, env, h, E, S, p.bind.imp fun d as1 h1 H1 s1 S1 p1 v rv => ?_⟩
  have lst : ∀ {ds : List D}, listD h1 d = some ds → ∃ a vs, v = .ref a ∧ SqL rc.K H1 a vs ∧ RDs rc as1 H1 ds vs := by
    intro ds e
    unfold listD at e
    split at e
    · split at e
      · rename_i xs hm
        obtain ⟨a, vs, rfl, ea, qa, rs⟩ := S1.list hm rv
        cases e
        exact ⟨a, vs, rfl, .of qa, rs⟩
      · cases e
    · cases e
  have seq : ∀ {ds : List D}, seqD h1 d = some ds → ∃ a vs, v = .ref a ∧ (SqL rc.K H1 a vs ∨ SqT rc.K H1 a vs) ∧ RDs rc as1 H1 ds vs := by
    intro ds e
    unfold seqD at e
    split at e
    · simp only [RD] at rv
      obtain ⟨a, vs, rfl, qa, rs⟩ := rv
      cases e
      exact ⟨a, vs, rfl, .inr qa, rs⟩
    · split at e
      · rename_i xs hm
        obtain ⟨a, vs, rfl, ea, qa, rs⟩ := S1.list hm rv
        cases e
        exact ⟨a, vs, rfl, .inl (.of qa), rs⟩
      · cases e
    · cases e
  have fin : ∀ (g : Option (List D)), g = (if f.isT then seqD h1 d else listD h1 d) → Post rc W σ as1 H1 (fun d as' _ H' => ∀ v, RD rc as' H' d v → Q v H') ((ofO g h1).bind fun xs h1 => ofO (f.run xs) h1) → rS rc f.isT f.run [v] H1 Q := by
    intro g hg p1
    obtain ⟨ds, ed, p2⟩ := p1.bind.ofO S1
    obtain ⟨e, ee, q⟩ := p2.ofO' S1
    rw [hg] at ed
    cases hf : f.isT with
    | true =>
      rw [hf] at ed
      obtain ⟨a, vs, rfl, sq, rs⟩ := seq ed
      exact ⟨as1, h1, a, vs, ds, e, rfl, sq.imp id fun z => ⟨rfl, z⟩, S1, rs, ee, fun H' u s2 S2 r2 => q as1 H' s2 S2 u r2⟩
    | false =>
      rw [hf] at ed
      obtain ⟨a, vs, rfl, sq, rs⟩ := lst ed
      exact ⟨as1, h1, a, vs, ds, e, rfl, .inl sq, S1, rs, ee, fun H' u s2 S2 r2 => q as1 H' s2 S2 u r2⟩
  cases f <;> exact fin _ rfl p1
theorem e_fl {f : FL} {g : It} {t : TE} (hK : rc.K = X.K) (hc : X.calm = true) (B : Blt X fx f.py) (ha : PE X a t) (hs : noStar [a] = true)
    (i : ∀ σ H Q, tE rc W (evE (.fl f g) k) σ H Q → tCB (rS rc f.isT f.run) (tCons t tNil) σ H Q) : PE X (.Call (.Name fx p) [a] [] pos) (tE rc W (evE (.fl f g) k)) := by
  have c := c_fl (X := X) (rc := rc) hK hc f
  cases f with
  | tuple => exact (e_callT1 c B ha hs).imp i
  | all => exact (e_call1 c B ha hs).imp i
  | any => exact (e_call1 c B ha hs).imp i
  | sum => exact (e_call1 c B ha hs).imp i
  | min => exact (e_call1 c B ha hs).imp i
  | max => exact (e_call1 c B ha hs).imp i
  | len => exact (e_call1 c B ha hs).imp i

/-! ### subscripts -/
theorem ixAt_N {n : Nat} {i : Int} : ixAt n i = ixN n i := rfl
theorem atI_of {α β : Type} {R : α → β → Prop} {xs : List α} {vs : List β} (hl : xs.length = vs.length) (hg : ∀ (k : Nat) x, xs[k]? = some x → ∃ v, vs[k]? = some v ∧ R x v) {i : Int} {x : α} (e : ((ixAt xs.length i).bind fun k => xs[k]?) = some x) : ∃ v, atI vs i = some v ∧ R x v := by
  obtain ⟨k, ek, ex⟩ := Option.bind_eq_some_iff.mp e
  obtain ⟨v, ev, r⟩ := hg k x ex
  refine ⟨v, ?_, r⟩
  unfold atI
  rw [← hl, ← ixAt_N, ek]
  exact ev
/-- the rule of a subscript -/
def rX (rc : Rc) (f : Hs → D → D → Option D) : R2 := fun x y H Q =>
  ∃ as h d e b, SRel rc as h H ∧ RD rc as H d x ∧ RD rc as H e y ∧ f h d e = some b ∧ ∀ v, RD rc as H b v → Q v H
theorem x_idx (hK : rc.K = X.K) : IxR X (rX rc idxD) := by
  rintro value slice pins s σ H x y v u Q I rv ru ⟨as, h, d, e, b, S, rx, ry, eb, q⟩ hs
  unfold idxD at eb
  split at eb
  · rename_i xs i
    simp only [RD] at rx ry
    obtain ⟨a, vs, rfl, qa, rs⟩ := rx
    subst ry
    obtain ⟨w, ew, rw'⟩ := atI_of rs.length (fun k x ex => rs.get ex) eb
    exact ix_tup value slice pins s σ H _ _ v u Q I rv ru ⟨a, vs, i, w, rfl, rfl, hK ▸ qa, ew, q _ rw'⟩ hs
  · rename_i z i
    simp only [RD] at rx ry
    subst rx ry
    split at eb
    · rename_i hz
      obtain ⟨c, ec, rfl⟩ := Option.map_eq_some_iff.mp eb
      refine ix_str value slice pins s σ H _ _ v u Q I rv ru ⟨z, i, c, rfl, rfl, hz.2.2, ?_, q _ (by simp only [RD])⟩ hs
      unfold atI ixN
      have hl : z.cps.toList.length = z.length := by simp [Str.length]
      rw [hl, if_pos hz.1, if_pos hz.2.1]
      simpa using ec
    · cases eb
  · rename_i m
    split at eb
    · rename_i xs i hm
      obtain ⟨a, vs, rfl, ea, qa, rs⟩ := S.list hm rx
      simp only [RD] at ry
      subst ry
      obtain ⟨w, ew, rw'⟩ := atI_of rs.length (fun k x ex => rs.get ex) eb
      exact ix_list value slice pins s σ H _ _ v u Q I rv ru ⟨a, vs, _, w, rfl, rfl, .of qa, ew, q _ rw'⟩ hs
    · rename_i xs i hm
      obtain ⟨a, vs, o, rfl, ea, qa, rs⟩ := S.frz hm rx
      simp only [RD] at ry
      subst ry
      obtain ⟨w, ew, rw'⟩ := atI_of rs.length (fun k x ex => rs.get ex) eb
      exact ix_list value slice pins s σ H _ _ v u Q I rv ru ⟨a, vs, _, w, rfl, rfl, .inl (.inr ⟨o, qa⟩), ew, q _ rw'⟩ hs
    · rename_i kvs i hm
      simp only [RD] at rx
      obtain ⟨a, rfl, ea⟩ := rx
      exact (S.ok m _ a hm ea).elim
    · cases eb
  · cases eb
def notSlice : Expr → Bool
  | .Slice .. => false
  | _ => true
theorem plainIx {b : Expr} (h : notSlice b = true) : PlainIx b := by
  intro o i
  cases b <;> first
    | rfl
    | (simp [notSlice] at h)
theorem e_idx {x y : E} (hK : rc.K = X.K) (ha : PE X a (tE rc W (evE x k))) (hb : PE X b (tE rc W (evE y k))) (hs : notSlice b = true) : PE X (.Subscript a b pos) (tE rc W (evE (.idx x y) k)) := by
  refine (pe_ix (x_idx (rc := rc) hK) ha hb (plainIx hs)).imp ?_
  rintro σ H Q ⟨as, env, h, E, S, p⟩
  rw [evE] at p
  refine ⟨as, env, h, E, S, p.bind.imp fun d as1 h1 H1 s1 S1 p1 v rv => ?_⟩
  refine ⟨as1, env, h1, E.mono S s1, S1, p1.bind.imp fun e as2 h2 H2 s2 S2 p2 u ru => ?_⟩
  obtain ⟨g, eg, q⟩ := p2.ofO S2
  exact ⟨as2, h2, d, e, g, S2, rv.mono S1 s2, ru, eg, q⟩
/-! ### slices -/
def tOI (rc : Rc) (W : WX) (f : Env → Hs → R (Option Int)) : TO := fun σ H Q =>
  ∃ as env h, ERel rc as H env σ ∧ SRel rc as h H ∧ Post rc W σ as H (fun o _ _ H' => Q o H') (f env h)
theorem _root_.L2.PO.imp {X : Cx} {e : Option Expr} {t t' : TO} (p : PO X e t) (k : ∀ σ H Q, t' σ H Q → t σ H Q) : PO X e t' := ⟨fun pins s σ H Q I h => p.run pins s σ H Q I (k σ H Q h)⟩
theorem o_none : PO X none (tOI rc W (evO .none k)) := by
  refine po_none.imp ?_
  rintro σ H Q ⟨as, env, h, E, S, p⟩
  rw [evO] at p
  exact p.ok S
theorem o_some {x : E} (ha : PE X a (tE rc W (evE x k))) : PO X (some a) (tOI rc W (evO (.some x) k)) := by
  refine (po_some ha).imp ?_
  rintro σ H Q ⟨as, env, h, E, S, p⟩
  rw [evO] at p
  refine ⟨as, env, h, E, S, p.bind.imp fun d as1 h1 H1 s1 S1 p1 v rv => ?_⟩
  split at p1
  · simp only [RD] at rv
    exact ⟨_, rv, p1.ok S1⟩
  · exact p1.elim
theorem cutAt_sIx {n d : Nat} {o : Option Int} : cutAt n d o = HT.sIx n d o := by
  cases o <;> rfl
theorem cut_V {xs : List D} {vs : List V} {as : List Addr} {H : Hp} (r : RDs rc as H xs vs) {lo hi : Option Int} : RDs rc as H (cut xs (HT.sIx xs.length 0 lo) (HT.sIx xs.length xs.length hi)) (cutV vs lo hi) := by
  unfold cut cutV
  rw [r.length, List.drop_take]
  exact (r.drop _).take _
def rSl (rc : Rc) : V → Option Int → Option Int → Hp → VK → Prop := fun x lo hi H Q =>
  ∃ as h d, SRel rc as h H ∧ RD rc as H d x ∧ Post rc (fun _ _ _ _ => False) [] as H (fun d as' _ H' => ∀ v, RD rc as' H' d v → Q v H') (slD d lo hi h)
theorem s_sl (hK : rc.K = X.K) : SlR X (rSl rc) := by
  rintro pins s σ H x v vl vu lo hi sl Q I rv hs pl pu ⟨as, h, d, S, rx, p⟩
  have lst : ∀ {xs : List D} {a : Addr} {vs : List V}, x = .ref a → SqL X.K H a vs → RDs rc as H xs vs → Post rc (fun _ _ _ _ => False) [] as H (fun d as' _ H' => ∀ v, RD rc as' H' d v → Q v H')
      (newC (.list (cut xs (cutAt xs.length 0 lo) (cutAt xs.length xs.length hi))) h) → ∃ T id, typeLookup (.type T) "__getitem__" = pure (some (.builtin id)) ∧ s.TypeIs v T ∧ wpAny (model X.prog X.w) X.A (getItem v (.ref sl)) (EP X pins σ Q) X.xe s := by
    intro xs a vs ex sq rs p
    rw [cutAt_sIx, cutAt_sIx] at p
    refine sl_list pins s σ H x v vl vu lo hi sl Q I rv hs pl pu ⟨a, vs, ex, sq, fun q hq => ?_⟩
    obtain ⟨s1, S1, r1⟩ := newCell S (cut_V rs) hq
    exact p _ _ s1 S1 _ r1
  unfold slD at p
  split at p
  · rename_i xs
    simp only [RD] at rx
    obtain ⟨a, vs, rfl, qa, rs⟩ := rx
    rw [cutAt_sIx, cutAt_sIx] at p
    refine sl_tupA pins s σ H _ v vl vu lo hi sl Q I rv hs pl pu ⟨a, vs, rfl, hK ▸ qa, fun hw => ?_, fun hw q hq => ?_⟩
    · refine p.ok S _ ?_
      simp only [RD]
      refine ⟨a, vs, rfl, qa, ?_⟩
      rw [← rs.length] at hw
      rw [hw.1, hw.2]
      unfold cut
      simpa using rs
    · obtain ⟨s1, S1, r1⟩ := newTup S (cut_V rs) hq
      exact p _ _ s1 S1 _ r1
  · rename_i m
    split at p
    · rename_i xs hm
      obtain ⟨a, vs, rfl, ea, qa, rs⟩ := S.list hm rx
      exact lst rfl (.of qa) rs p
    · rename_i xs hm
      obtain ⟨a, vs, o, rfl, ea, qa, rs⟩ := S.frz hm rx
      exact lst rfl (.inl (.inr ⟨o, qa⟩)) rs p
    · exact p.elim
  · exact p.elim
theorem slD_noexc (x : D) (lo hi : Option Int) (h : Hs) (e : Ex) (h' : Hs) : slD x lo hi h ≠ .exc e h' := by
  intro z
  unfold slD at z
  split at z <;> (try split at z) <;> first
    | (cases z; done)
    | exact newC_noexc _ _ _ _ z
theorem e_sl {x : E} {lo hi : O} {l u : Option Expr} {p2 : Pos} (hK : rc.K = X.K) (ha : PE X a (tE rc W (evE x k))) (hl : PO X l (tOI rc W (evO lo k))) (hu : PO X u (tOI rc W (evO hi k))) : PE X (.Subscript a (.Slice l u none p2) pos) (tE rc W (evE (.sl x lo hi) k)) := by
  refine (pe_slice (s_sl (rc := rc) hK) ha hl hu).imp ?_
  rintro σ H Q ⟨as, env, h, E, S, p⟩
  rw [evE] at p
  refine ⟨as, env, h, E, S, p.bind.imp fun d as1 h1 H1 s1 S1 p1 v rv => ?_⟩
  refine ⟨as1, env, h1, E.mono S s1, S1, p1.bind.imp fun o1 as2 h2 H2 s2 S2 p2 => ?_⟩
  refine ⟨as2, env, h2, (E.mono S s1).mono S1 s2, S2, p2.bind.imp fun o2 as3 h3 H3 s3 S3 p3 => ?_⟩
  exact ⟨as3, h3, d, S3, (rv.mono S1 s2).mono S2 s3, p3.lift fun e h' => slD_noexc d _ _ h3 e h'⟩
/-! ### xs[::-1] -/
theorem e_rev {x : E} {kk : Nat} {p1 p2 p3 : Pos} (ha : PE X a (tE rc W (evE x k))) : PE X (.Subscript a (.Slice none none (some (.UnaryOp .USub (.Constant (.int 1) kk p1) p2)) p3) pos) (tE rc W (evE (.rev x) k)) := by
  refine (pe_revL ha).imp ?_
  rintro σ H Q ⟨as, env, h, E, S, p⟩
  rw [evE] at p
  refine ⟨as, env, h, E, S, p.bind.imp fun d as1 h1 H1 s1 S1 p1 v rv => ?_⟩
  unfold revD at p1
  split at p1
  · split at p1
    · rename_i xs hm
      obtain ⟨a, vs, rfl, ea, qa, rs⟩ := S1.list hm rv
      refine ⟨a, vs, rfl, .of qa, fun q hq => ?_⟩
      obtain ⟨s2, S2, r2⟩ := newCell S1 rs.reverse hq
      exact p1 _ _ s2 S2 _ r2
    · exact p1.elim
  · exact p1.elim
end
end MI
end
section
/-! MH: what a loop walks. -/
namespace MI
open PySem PySem.Spec PyProof.Rows L2
/-- the iterator J gives the items, one a turn, from the state (as0, H0) on, while the guard holds -/
structure Wk (rc : Rc) (as0 : List Addr) (H0 : Hp) (p : List D × Gd) (J : L2.It) : Prop where
  len : p.1.length ≤ sizeLine
  turn : ∀ i as H h, Stp as0 H0 as H → SRel rc as h H → p.2.ok h = true →
    (∀ d, p.1[i]? = some d → J.go i H ∧ ∀ x H', J.yld i H x H' → Stp as H as H' ∧ SRel rc as h H' ∧ RD rc as H' d x ∧ (∀ b o, H b = some o → H' b = some o)) ∧ (p.1.length = i → J.stop i H)
/-- lists and tuples have their length -/
def Bnd (K : PySem.W.Frag) (H : Hp) : Prop := (∀ a vs, SqL K H a vs → vs.length ≤ sizeLine) ∧ ∀ a vs, SqT K H a vs → vs.length ≤ sizeLine
theorem _root_.L2.Inv.bnd {X : Cx} {pins : List (Addr × Obj)} {σ : List (Option V)} {H : Hp} {s : Shared} (I : Inv X pins σ H s) : Bnd X.K H :=
  ⟨fun a vs q => let ⟨_, _, _, z⟩ := I.list q; z, fun a vs q => let ⟨_, _, _, z⟩ := I.tuple q; z⟩
theorem PI.bnd {X : Cx} {tg it : Expr} {t : TI} (p : PI X tg it t) : PI X tg it (fun σ H R => t σ H fun J H' => Bnd X.K H' → R J H') := ⟨fun pins s σ H R I h =>
  thn (p.run pins s σ H _ I h) fun v s1 h1 => thn h1 fun u s2 ⟨it, fp, tn, J, H', e, I', T, st, f, q⟩ => ⟨it, fp, tn, J, H', e, I', T, st, f, q I'.bnd⟩⟩
def tI (rc : Rc) (W : WX) (f : Env → Hs → R (List D × Gd)) : TI := fun σ H R =>
  ∃ as env h, ERel rc as H env σ ∧ SRel rc as h H ∧ Post rc W σ as H (fun p as' _ H' => ∀ J, Wk rc as' H' p J → R J H') (f env h)
theorem _root_.L2.PI.imp {X : Cx} {tg it : Expr} {t t' : TI} (p : PI X tg it t) (k : ∀ σ H Q, t' σ H Q → t σ H Q) : PI X tg it t' := ⟨fun pins s σ H Q I h => p.run pins s σ H Q I (k σ H Q h)⟩
/-- one judgement of two -/
theorem PI.or {X : Cx} {tg it : Expr} {t t' : TI} (p : PI X tg it t) (p' : PI X tg it t') : PI X tg it (fun σ H R => t σ H R ∨ t' σ H R) := ⟨fun pins s σ H R I h => h.elim (p.run pins s σ H R I) (p'.run pins s σ H R I)⟩
section
variable {rc : Rc} {as : List Addr} {H : Hp} {K : PySem.W.Frag}
theorem same_step {as : List Addr} {H : Hp} {h : Hs} {d : D} {x : V} (S : SRel rc as h H) (r : RD rc as H d x) : Stp as H as H ∧ SRel rc as h H ∧ RD rc as H d x ∧ ∀ b o, H b = some o → H b = some o := ⟨.refl, S, r, fun _ _ e => e⟩
theorem wk_tup (hK : rc.K = K) {a : Addr} {vs : List V} {xs : List D} (q : SqT rc.K H a vs) (r : RDs rc as H xs vs) (hz : vs.length ≤ sizeLine) : Wk rc as H (xs, []) (Itt K a) := by
  subst hK
  refine ⟨by rw [← r.length] at hz; exact hz, ?_⟩
  intro i as1 H1 h1 s1 S1 _
  refine ⟨fun d e => ?_, fun hi => ?_⟩
  · obtain ⟨v, ev, rv⟩ := (r.mono' s1.kp).get e
    have q1 := s1.kp.sqT q
    refine ⟨⟨vs, v, q1, ev⟩, fun x H' y => ?_⟩
    obtain ⟨rfl, y⟩ := y
    have := y vs q1
    rw [ev] at this
    cases this
    exact same_step S1 rv
  · exact ⟨vs, s1.kp.sqT q, by rw [← r.length]; exact Nat.le_of_eq hi⟩
/-- a list that stands still -/
theorem wk_fix (hK : rc.K = K) {a : Addr} {vs : List V} {xs : List D} (e : H a = some (.lst vs)) (na : a ∉ as) (r : RDs rc as H xs vs) (hz : vs.length ≤ sizeLine) : Wk rc as H (xs, []) (Itl K a) := by
  subst hK
  refine ⟨by rw [← r.length] at hz; exact hz, ?_⟩
  intro i as1 H1 h1 s1 S1 _
  have q1 : SqL rc.K H1 a vs := .of (s1.ext a _ e (.inl na) fun ps e => nomatch e)
  refine ⟨fun d e => ?_, fun hi => ?_⟩
  · obtain ⟨v, ev, rv⟩ := (r.mono' s1.kp).get e
    refine ⟨⟨vs, v, q1, ev⟩, fun x H' y => ?_⟩
    obtain ⟨rfl, y⟩ := y
    have := y vs q1
    rw [ev] at this
    cases this
    exact same_step S1 rv
  · exact ⟨vs, q1, by rw [← r.length]; exact Nat.le_of_eq hi⟩
/-- a list in a cell -/
theorem gd1_ok {as : List Addr} {H : Hp} {h : Hs} (S : SRel rc as h H) {n : Nat} {xs : List D} {a : Addr} (g : gd1 h (n, xs) = true) (ea : as[n]? = some a) : ∃ vs, SqL rc.K H a vs ∧ RDs rc as H xs vs := by
  unfold gd1 at g
  dsimp only at g
  split at g
  · rename_i ys hn
    rw [D.eqbs_ok g] at hn
    obtain ⟨vs, e1, r1⟩ := S.ok n _ a hn ea
    exact ⟨vs, .of e1, r1⟩
  · rename_i ys hn
    rw [D.eqbs_ok g] at hn
    obtain ⟨vs, o, e1, r1⟩ := S.ok n _ a hn ea
    exact ⟨vs, .inl (.inr ⟨o, e1⟩), r1⟩
  · cases g
/-- a list in a cell -/
theorem wk_cell (hK : rc.K = K) {a : Addr} {n : Nat} {xs : List D} (e : as[n]? = some a) (hz : xs.length ≤ sizeLine) : Wk rc as H (xs, [(n, xs)]) (Itl K a) := by
  subst hK
  refine ⟨hz, ?_⟩
  intro i as1 H1 h1 s1 S1 g
  have ea := s1.kp.at e
  obtain ⟨vs, q1, r1⟩ := gd1_ok S1 (by simpa [Gd.ok] using g) ea
  refine ⟨fun d e => ?_, fun hi => ?_⟩
  · obtain ⟨v, ev, rv⟩ := r1.get e
    refine ⟨⟨vs, v, q1, ev⟩, fun x H' y => ?_⟩
    obtain ⟨rfl, y⟩ := y
    have := y vs q1
    rw [ev] at this
    cases this
    exact same_step S1 rv
  · exact ⟨vs, q1, by rw [← r1.length]; exact Nat.le_of_eq hi⟩
theorem rangeD_get {lo : Int} : ∀ {n i : Nat} {d : D}, (rangeD lo n)[i]? = some d → i < n ∧ d = .int (lo + i)
  | 0, i, d, e => by simp [rangeD] at e
  | n + 1, 0, d, e => by
    simp [rangeD] at e
    exact ⟨Nat.succ_pos _, by simp [e]⟩
  | n + 1, i + 1, d, e => by
    simp only [rangeD, List.getElem?_cons_succ] at e
    obtain ⟨h1, h2⟩ := rangeD_get e
    refine ⟨Nat.succ_lt_succ h1, ?_⟩
    rw [h2]
    congr 1
    omega
theorem rangeD_length {lo : Int} : ∀ {n : Nat}, (rangeD lo n).length = n
  | 0 => rfl
  | n + 1 => by simp [rangeD, rangeD_length]
theorem wk_range {lo : Int} {n : Nat} (hz : n ≤ sizeLine) : Wk rc as H (rangeD lo n, []) (Itr lo n) := by
  refine ⟨by rw [rangeD_length]; exact hz, ?_⟩
  intro i as1 H1 h1 s1 S1 _
  refine ⟨fun d e => ?_, fun hi => ?_⟩
  · obtain ⟨h1, rfl⟩ := rangeD_get e
    refine ⟨h1, fun x H' y => ?_⟩
    obtain ⟨rfl, rfl⟩ := y
    exact same_step S1 (by simp only [RD])
  · rw [rangeD_length] at hi
    exact Nat.le_of_eq hi
theorem wk_str {z : Str} (hz : z.length ≤ sizeLine) : Wk rc as H (strD z, []) (Its z) := by
  refine ⟨by unfold strD; simpa [Str.length] using hz, ?_⟩
  intro i as1 H1 h1 s1 S1 _
  refine ⟨fun d e => ?_, fun hi => ?_⟩
  · unfold strD at e
    rw [List.getElem?_map] at e
    obtain ⟨c, ec, rfl⟩ := Option.map_eq_some_iff.mp e
    have hi : i < z.cps.size := by simpa using (List.getElem?_eq_some_iff.mp ec).1
    refine ⟨hi, fun x H' y => ?_⟩
    obtain ⟨rfl, c', ec', rfl⟩ := y
    have : c' = c := by
      rw [← Array.getElem?_toList, ec] at ec'
      exact (Option.some.inj ec').symm
    subst this
    exact same_step S1 (by simp only [RD])
  · unfold strD at hi
    have hi2 : z.cps.size ≤ i := Nat.le_of_eq (by simpa using hi)
    exact hi2
theorem zipD_get : ∀ {xs ys : List D} {i : Nat} {d : D}, (zipD xs ys)[i]? = some d → ∃ x y, xs[i]? = some x ∧ ys[i]? = some y ∧ d = .tup [x, y]
  | [], _, _, _, e => by simp [zipD] at e
  | _ :: _, [], _, _, e => by simp [zipD] at e
  | x :: xs, y :: ys, 0, d, e => by
    simp [zipD] at e
    exact ⟨x, y, rfl, rfl, e.symm⟩
  | x :: xs, y :: ys, i + 1, d, e => by
    simp only [zipD, List.getElem?_cons_succ] at e
    obtain ⟨a, b, h1, h2, h3⟩ := zipD_get e
    exact ⟨a, b, by simpa using h1, by simpa using h2, h3⟩
theorem zipD_length : ∀ {xs ys : List D}, (zipD xs ys).length = min xs.length ys.length
  | [], _ => by simp [zipD]
  | _ :: _, [] => by simp [zipD]
  | x :: xs, y :: ys => by
    simp only [zipD, List.length_cons, zipD_length]
    omega
theorem enumD_get : ∀ {n : Nat} {xs : List D} {i : Nat} {d : D}, (enumD n xs)[i]? = some d → ∃ x, xs[i]? = some x ∧ d = .tup [.int ((n + i : Nat) : Int), x]
  | _, [], _, _, e => by simp [enumD] at e
  | n, x :: xs, 0, d, e => by
    simp [enumD] at e
    exact ⟨x, rfl, by simp [e]⟩
  | n, x :: xs, i + 1, d, e => by
    simp only [enumD, List.getElem?_cons_succ] at e
    obtain ⟨a, h1, h2⟩ := enumD_get e
    refine ⟨a, by simpa using h1, ?_⟩
    rw [h2, show n + 1 + i = n + (i + 1) by omega]
theorem enumD_length : ∀ {n : Nat} {xs : List D}, (enumD n xs).length = xs.length
  | _, [] => rfl
  | n, x :: xs => by simp [enumD, enumD_length]
/-- a new pair at a free place -/
theorem new_pair {as : List Addr} {H : Hp} {h : Hs} {d e : D} {x y : V} (S : SRel rc as h H) (rx : RD rc as H d x) (ry : RD rc as H e y) {T : Addr} (hT : H T = none) :
    Stp as H as (upd H T (.tup [x, y])) ∧ SRel rc as h (upd H T (.tup [x, y])) ∧ RD rc as (upd H T (.tup [x, y])) (.tup [d, e]) (.ref T) ∧ ∀ b o, H b = some o → upd H T (.tup [x, y]) b = some o := by
  obtain ⟨s, S', r⟩ := newTup S (RDs.cons rx (RDs.cons ry RDs.nil)) hT
  exact ⟨s, S', r, fun b o e => by rw [upd_ne (ne_of_none e hT)]; exact e⟩
end
section
variable {X : Cx} {rc : Rc} {W : WX} {tg a b : Expr} {k : Ct}
/-- what a value is walked as -/
theorem walk_cases (hK : rc.K = X.K) {as : List Addr} {h : Hs} {H : Hp} (S : SRel rc as h H) {d : D} {v : V} {p : List D × Gd} (r : RD rc as H d v) (e : walkD h d = some p) :
    (∃ a vs, v = .ref a ∧ SqT X.K H a vs ∧ RDs rc as H p.1 vs ∧ p.2 = []) ∨ (∃ z, v = .str z ∧ z.length ≤ sizeLine ∧ p = (strD z, [])) ∨ ∃ a n vs, v = .ref a ∧ SqL X.K H a vs ∧ as[n]? = some a ∧ RDs rc as H p.1 vs ∧ p.2 = [(n, p.1)] := by
  unfold walkD at e
  split at e
  · cases e
    simp only [RD] at r
    obtain ⟨a, vs, rfl, q, rs⟩ := r
    exact .inl ⟨a, vs, rfl, hK ▸ q, rs, rfl⟩
  · split at e
    · rename_i hz
      cases e
      simp only [RD] at r
      exact .inr (.inl ⟨_, r, hz, rfl⟩)
    · cases e
  · rename_i n
    split at e
    · rename_i xs hn
      cases e
      obtain ⟨a, vs, rfl, ea, q, rs⟩ := S.list hn r
      exact .inr (.inr ⟨a, n, vs, rfl, .of q, ea, rs, rfl⟩)
    · rename_i xs hn
      cases e
      obtain ⟨a, vs, o, rfl, ea, q, rs⟩ := S.frz hn r
      exact .inr (.inr ⟨a, n, vs, rfl, .inl (.inr ⟨o, q⟩), ea, rs, rfl⟩)
    · cases e
  · cases e
theorem pie_list {pins : List (Addr × Obj)} {σ : Sg} {H : Hp} {s : Shared} {R : L2.It → Hp → Prop} {l : Addr} {vs : List V} (I : Inv X pins σ H s) (q : SqL X.K H l vs) (r : R (Itl X.K l) H) : wpAny (model X.prog X.w) X.A (pyIter (.ref l)) (PIE X pins σ tg R) X.xe s := by
  obtain ⟨its, rv, p, hz⟩ := I.list q
  exact wpAny_pyIter_list p.isList (pi_one (tk := s.toks) I _ (turn_list l _) ⟨_, Heap.get?_push_size _ rfl, rfl, rfl⟩ r)
theorem pie_tup {pins : List (Addr × Obj)} {σ : Sg} {H : Hp} {s : Shared} {R : L2.It → Hp → Prop} {l : Addr} {vs : List V} (I : Inv X pins σ H s) (q : SqT X.K H l vs) (r : R (Itt X.K l) H) : wpAny (model X.prog X.w) X.A (pyIter (.ref l)) (PIE X pins σ tg R) X.xe s := by
  obtain ⟨its, rv, p, hz⟩ := I.tuple q
  exact wpAny_pyIter_tuple (show s.heap.IsTuple l its.toArray from p) (pi_one (tk := s.toks) I _ (turn_tuple l _) ⟨_, Heap.get?_push_size _ rfl, rfl, rfl⟩ r)
theorem pie_str {pins : List (Addr × Obj)} {σ : Sg} {H : Hp} {s : Shared} {R : L2.It → Hp → Prop} {z : Str} {t : Tok} (I : Inv X pins σ H s) (r : R (Its z) H) : wpAny (model X.prog X.w) X.A (pyIter (.str z t)) (PIE X pins σ tg R) X.xe s := by
  refine wpAny_pyIter_strU (pi_one (tk := s.toks) I _ (turn_str (tg := tg) _ z t (strIterType z) ?_) ⟨_, Heap.get?_push_size _ rfl, rfl, rfl⟩ r)
  unfold strIterType
  split
  · exact .inl rfl
  · exact .inr rfl
/-- a value that is walked -/
theorem i_e {x : E} (hK : rc.K = X.K) (ha : PE X a (tE rc W (evE x k))) : PI X tg a (tI rc W (evI (.e x) k)) := by
  refine ⟨fun pins s σ H R I h => ?_⟩
  obtain ⟨as, env, h, E, S, p⟩ := h
  rw [evI] at p
  have hp := p.bind
  have t : tE rc W (evE x k) σ H fun v H1 => Bnd X.K H1 → (∃ a vs, v = .ref a ∧ SqT X.K H1 a vs ∧ R (Itt X.K a) H1) ∨ (∃ z, v = .str z ∧ R (Its z) H1) ∨ ∃ a vs, v = .ref a ∧ SqL X.K H1 a vs ∧ R (Itl X.K a) H1 := by
    refine ⟨as, env, h, E, S, hp.imp fun d as1 h1 H1 s1 S1 p1 v rv bd => ?_⟩
    obtain ⟨q, eq, kR⟩ := p1.ofO S1
    rcases walk_cases hK S1 rv eq with ⟨a, vs, rfl, sq, rs, eg⟩ | ⟨z, rfl, hz, rfl⟩ | ⟨a, n, vs, rfl, sq, en, rs, eg⟩
    · obtain ⟨q1, q2⟩ := q
      dsimp only at eg rs
      subst eg
      exact .inl ⟨a, vs, rfl, sq, kR _ (wk_tup hK (hK ▸ sq) rs (bd.2 a vs sq))⟩
    · exact .inr (.inl ⟨z, rfl, kR _ (wk_str hz)⟩)
    · obtain ⟨q1, q2⟩ := q
      dsimp only at eg rs
      subst eg
      exact .inr (.inr ⟨a, vs, rfl, sq, kR _ (wk_cell hK en (by rw [rs.length]; exact bd.1 a vs sq))⟩)
  refine thn (ha.run pins s σ H _ I t) fun v s1 ⟨x, H1, I1, r1, q1⟩ => ?_
  rcases q1 I1.bnd with ⟨a, vs, rfl, sq, r⟩ | ⟨z, rfl, r⟩ | ⟨a, vs, rfl, sq, r⟩
  · cases r1
    exact pie_tup I1 sq r
  · obtain ⟨t, rfl⟩ := r1
    exact pie_str I1 r
  · cases r1
    exact pie_list I1 sq r
/-- a list just made, walked -/
theorem i_l {l : L} (hK : rc.K = X.K) (ha : PE X a (tL rc W (evL l k))) : PI X tg a (tI rc W (evI (.l l) k)) := by
  refine (PI.bnd (pi_list ha)).imp ?_
  rintro σ H R ⟨as, env, h, E, S, p⟩
  rw [evI] at p
  refine ⟨as, env, h, E, S, p.bind.imp fun ds as1 h1 H1 s1 S1 p1 q vs eq nq h0 rs => ?_⟩
  exact ⟨q, rfl, ⟨vs, .of eq⟩, fun bd => p1.ok S1 _ (wk_fix hK eq nq rs (bd.1 q vs (.of eq)))⟩
theorem okR_ok {i : Int} (h : okR i = true) : -(2 ^ 62) ≤ i ∧ i < 2 ^ 62 := by
  unfold okR at h
  simp only [decide_eq_true_eq] at h
  omega
theorem i_range1 {x : E} {p pos : Pos} (B : Blt X "range" (.type "range")) (ha : PE X a (tE rc W (evE x k))) (hs : noStar [a] = true) : PI X tg (.Call (.Name "range" p) [a] [] pos) (tI rc W (evI (.range1 x) k)) := by
  refine (pi_range1 B.gl B.free (pa_cons ha pa_nil (star_cons hs)) (star_cons hs)).imp ?_
  rintro σ H R ⟨as, env, h, E, S, p⟩
  rw [evI] at p
  refine ⟨as, env, h, E, S, p.bind.imp fun d as1 h1 H1 s1 S1 p1 v rv => ?_⟩
  obtain ⟨q, eq, kR⟩ := p1.ofO S1
  obtain ⟨xs, ex, rfl⟩ := Option.map_eq_some_iff.mp eq
  unfold range1 at ex
  split at ex
  · rename_i j
    split at ex
    · rename_i hj
      simp only [Bool.and_eq_true, decide_eq_true_eq] at hj
      cases ex
      simp only [RD] at rv
      subst rv
      exact ⟨j, rfl, (okR_ok hj.1).1, (okR_ok hj.1).2, kR _ (wk_range (by omega))⟩
    · cases ex
  · cases ex
theorem i_range2 {x y : E} {p pos : Pos} (B : Blt X "range" (.type "range")) (ha : PE X a (tE rc W (evE x k))) (hb : PE X b (tE rc W (evE y k))) (hs : noStar [a, b] = true) : PI X tg (.Call (.Name "range" p) [a, b] [] pos) (tI rc W (evI (.range2 x y) k)) := by
  have h2 := noStar_tail hs
  refine (pi_range2 B.gl B.free (pa_cons ha (pa_cons hb pa_nil (star_cons h2)) (star_cons hs)) (by rw [star_cons hs, star_cons h2]; rfl) (by rw [star_cons h2]; rfl)).imp ?_
  rintro σ H R ⟨as, env, h, E, S, p⟩
  rw [evI] at p
  refine ⟨as, env, h, E, S, p.bind.imp fun d as1 h1 H1 s1 S1 p1 v rv => ?_⟩
  refine ⟨as1, env, h1, E.mono S s1, S1, p1.bind.imp fun e as2 h2 H2 s2 S2 p2 u ru => ?_⟩
  obtain ⟨q, eq, kR⟩ := p2.ofO S2
  obtain ⟨xs, ex, rfl⟩ := Option.map_eq_some_iff.mp eq
  unfold range2 at ex
  split at ex
  · rename_i i j
    split at ex
    · rename_i hj
      simp only [Bool.and_eq_true, decide_eq_true_eq] at hj
      cases ex
      simp only [RD] at rv ru
      subst rv ru
      exact ⟨i, j, rfl, ⟨(okR_ok hj.1.1).1, (okR_ok hj.1.1).2, (okR_ok hj.1.2).1, (okR_ok hj.1.2).2⟩, kR _ (wk_range (by omega))⟩
    · cases ex
  · cases ex
/-- zip of two tuples (two lists: their cells are not looked at again) -/
theorem wk_zipT (hK : rc.K = X.K) {as : List Addr} {H : Hp} {p q : Addr} {vs us : List V} {xs ys : List D} (sp : SqT X.K H p vs) (sq : SqT X.K H q us) (rx : RDs rc as H xs vs) (ry : RDs rc as H ys us) (hz : vs.length ≤ sizeLine) : Wk rc as H (zipD xs ys, []) (RZ.ItzT X.K p q) := by
  refine ⟨by rw [zipD_length, rx.length]; omega, ?_⟩
  intro i as1 H1 h1 s1 S1 _
  have sp1 : SqT X.K H1 p vs := hK ▸ s1.kp.sqT (rc := rc) (hK ▸ sp)
  have sq1 : SqT X.K H1 q us := hK ▸ s1.kp.sqT (rc := rc) (hK ▸ sq)
  have rx1 := rx.mono' s1.kp
  have ry1 := ry.mono' s1.kp
  refine ⟨fun d e => ?_, fun hi => ?_⟩
  · obtain ⟨x, y, ex, ey, rfl⟩ := zipD_get e
    obtain ⟨v, ev, rv⟩ := rx1.get ex
    obtain ⟨u, eu, ru⟩ := ry1.get ey
    refine ⟨⟨vs, us, v, u, sp1, sq1, ev, eu⟩, fun w H' y => ?_⟩
    obtain ⟨T, a, b, rfl, hT, rfl, ha, hb⟩ := y
    have ha1 := ha vs sp1
    have hb1 := hb us sq1
    rw [ev] at ha1
    rw [eu] at hb1
    cases ha1
    cases hb1
    exact new_pair S1 rv ru hT
  · rw [zipD_length, rx.length, ry.length] at hi
    exact ⟨vs, us, sp1, sq1, by omega⟩
theorem wk_zipL (hK : rc.K = X.K) {as : List Addr} {H : Hp} {p q : Addr} {m n : Nat} {xs ys : List D} (sp : as[m]? = some p) (sq : as[n]? = some q) (hz : xs.length ≤ sizeLine) : Wk rc as H (zipD xs ys, [(m, xs), (n, ys)]) (Itz X.K p q) := by
  refine ⟨by rw [zipD_length]; omega, ?_⟩
  intro i as1 H1 h1 s1 S1 g
  simp only [Gd.ok, List.all_cons, List.all_nil, Bool.and_true, Bool.and_eq_true] at g
  obtain ⟨vs, sp1, rx1⟩ := gd1_ok S1 g.1 (s1.kp.at sp)
  obtain ⟨us, sq1, ry1⟩ := gd1_ok S1 g.2 (s1.kp.at sq)
  rw [hK] at sp1 sq1
  refine ⟨fun d e => ?_, fun hi => ?_⟩
  · obtain ⟨x, y, ex, ey, rfl⟩ := zipD_get e
    obtain ⟨v, ev, rv⟩ := rx1.get ex
    obtain ⟨u, eu, ru⟩ := ry1.get ey
    refine ⟨⟨vs, us, v, u, sp1, sq1, ev, eu⟩, fun w H' y => ?_⟩
    obtain ⟨T, a, b, rfl, hT, rfl, ha, hb⟩ := y
    have ha1 := ha vs sp1
    have hb1 := hb us sq1
    rw [ev] at ha1
    rw [eu] at hb1
    cases ha1
    cases hb1
    exact new_pair S1 rv ru hT
  · rw [zipD_length, rx1.length, ry1.length] at hi
    exact ⟨vs, us, sp1, sq1, by omega⟩
theorem i_zip {x y : E} {p pos tpos : Pos} {elts : List Expr} {kk : Nat} (hK : rc.K = X.K) (B : Blt X "zip" (.type "zip")) (ha : PE X a (tE rc W (evE x k))) (hb : PE X b (tE rc W (evE y k))) (hs : noStar [a, b] = true) :
    PI X (.Tuple elts kk tpos) (.Call (.Name "zip" p) [a, b] [] pos) (tI rc W (evI (.zip x y) k)) := by
  have h2 := noStar_tail hs
  refine (PI.bnd (RZ.pi_zipA B.gl B.free (pa_cons ha (pa_cons hb pa_nil (star_cons h2)) (star_cons hs)) (by rw [star_cons hs]) (star_plain h2))).imp ?_
  rintro σ H R ⟨as, env, h, E, S, p⟩
  rw [evI] at p
  refine ⟨as, env, h, E, S, p.bind.imp fun d as1 h1 H1 s1 S1 p1 v rv => ?_⟩
  refine ⟨as1, env, h1, E.mono S s1, S1, p1.bind.imp fun e as2 h2 H2 s2 S2 p2 u ru => ?_⟩
  obtain ⟨w, ew, kR⟩ := p2.ofO S2
  have rv2 := rv.mono S1 s2
  unfold zipO at ew
  split at ew
  · cases ew
    simp only [RD] at rv2 ru
    obtain ⟨q1, vs, rfl, sq1, rs1⟩ := rv2
    obtain ⟨q2, us, rfl, sq2, rs2⟩ := ru
    exact ⟨q1, q2, vs, us, rfl, .inr ⟨hK ▸ sq1, hK ▸ sq2, fun bd => kR _ (wk_zipT hK (hK ▸ sq1) (hK ▸ sq2) rs1 rs2 (bd.2 _ _ (hK ▸ sq1)))⟩⟩
  · split at ew
    · rename_i xs ys hm hn
      cases ew
      obtain ⟨q1, vs, rfl, e1, sq1, rs1⟩ := S2.list hm rv2
      obtain ⟨q2, us, rfl, e2, sq2, rs2⟩ := S2.list hn ru
      exact ⟨q1, q2, vs, us, rfl, .inl ⟨.of sq1, .of sq2, fun bd => kR _ (wk_zipL hK e1 e2 (by rw [rs1.length]; exact bd.1 _ _ (.of sq1)))⟩⟩
    · cases ew
  · cases ew
end
end MI
end
section
/-! MJ: targets, comprehensions. -/
namespace MI
open PySem PySem.Spec PyProof.Rows L2
/-- two lists of slots are one outside of some places -/
def Same_ (is : List Nat) (σ σ' : Sg) : Prop := σ'.length = σ.length ∧ ∀ i, i ∉ is → σ'[i]? = σ[i]?
def tG (rc : Rc) (t : Tg) : TG := fun v σ H Q =>
  ∃ as h d env env', SRel rc as h H ∧ RD rc as H d v ∧ ERel rc as H env σ ∧ t.bind h d env = some env' ∧ ∀ σ', ERel rc as H env' σ' → Same_ t.slots σ σ' → Q σ' H
def tGs (rc : Rc) (ts : List Tg) : TGs := fun vs σ H Q =>
  ∃ as h ds env env', SRel rc as h H ∧ RDs rc as H ds vs ∧ ERel rc as H env σ ∧ Tg.binds h ts ds env = some env' ∧ ∀ σ', ERel rc as H env' σ' → Same_ (Tg.slotss ts) σ σ' → Q σ' H
theorem _root_.L2.PG.imp {X : Cx} {e : Expr} {t t' : TG} (p : PG X e t) (k : ∀ v σ H Q, t' v σ H Q → t v σ H Q) : PG X e t' := ⟨fun pins s σ H v u Q I r h => p.run pins s σ H v u Q I r (k v σ H Q h)⟩
theorem _root_.L2.PGs.imp {X : Cx} {e : List Expr} {t t' : TGs} (p : PGs X e t) (k : ∀ v σ H Q, t' v σ H Q → t v σ H Q) : PGs X e t' := ⟨fun pins s σ H v u Q I r h => p.run pins s σ H v u Q I r (k v σ H Q h)⟩
theorem PG.or {X : Cx} {e : Expr} {t t' : TG} (p : PG X e t) (p' : PG X e t') : PG X e (fun v σ H Q => t v σ H Q ∨ t' v σ H Q) := ⟨fun pins s σ H v u Q I r h => h.elim (p.run pins s σ H v u Q I r) (p'.run pins s σ H v u Q I r)⟩
section
variable {X : Cx} {rc : Rc} {W : WX} {k : Ct} {pos : Pos}
theorem ERel.set {as : List Addr} {H : Hp} {env : Env} {σ : Sg} {i : Nat} {d : D} {v : V} (E : ERel rc as H env σ) (r : RD rc as H d v) : ERel rc as H (env.set i (some d)) (σ.set i (some v)) := by
  refine ⟨by simpa using E.1, fun j d' e => ?_⟩
  by_cases hj : j = i
  · subst hj
    have hl : j < env.length := by
      have := (List.getElem?_eq_some_iff.mp e).1
      simpa using this
    rw [List.getElem?_set_self hl] at e
    cases e
    exact ⟨v, List.getElem?_set_self (Nat.lt_of_lt_of_le hl E.1), r⟩
  · rw [List.getElem?_set_ne (Ne.symm hj)] at e ⊢
    exact E.2 j d' e
theorem g_v {i : Nat} {x : Str} (hN : X.N.Nodup) (hi : X.N[i]? = some x) (hx : Loc X.env.scope x) (hf : X.fn x = true ∨ X.env.scope.names.lookup x = some .local) : PG X (.Name x pos) (tG rc (.v i)) := by
  refine (pg_name hN hi hx hf).imp ?_
  rintro v σ H Q ⟨as, h, d, env, env', S, r, E, b, q⟩
  simp only [Tg.bind, Option.some.injEq] at b
  subst b
  exact q _ (E.set r) ⟨by simp, fun j hj => List.getElem?_set_ne (by simpa [Tg.slots, eq_comm] using hj)⟩
theorem gs_nil : PGs X [] (tGs rc []) := by
  refine pgs_nil.imp ?_
  rintro vs σ H Q ⟨as, h, ds, env, env', S, r, E, b, q⟩
  cases ds with
  | nil =>
    simp only [RDs] at r
    simp only [Tg.binds, Option.some.injEq] at b
    subst b
    exact ⟨r, q σ E ⟨rfl, fun _ _ => rfl⟩⟩
  | cons d ds => simp [Tg.binds] at b
theorem gs_cons {e : Expr} {es : List Expr} {t : Tg} {ts : List Tg} (h1 : PG X e (tG rc t)) (h2 : PGs X es (tGs rc ts)) (hs : noStar (e :: es) = true) : PGs X (e :: es) (tGs rc (t :: ts)) := by
  have hs' : (assignEach (e :: es) X.env).map (·.2) = assign e X.env :: (assignEach es X.env).map (·.2) := by
    cases e <;> first
      | rfl
      | (simp [noStar] at hs)
  refine (pgs_cons h1 h2 hs').imp ?_
  rintro vs σ H Q ⟨as, h, ds, env, env', S, r, E, b, q⟩
  cases ds with
  | nil => simp [Tg.binds] at b
  | cons d ds =>
    simp only [RDs] at r
    obtain ⟨v, rr, rfl, r1, r2⟩ := r
    simp only [Tg.binds] at b
    split at b
    · rename_i env1 b1
      refine ⟨v, rr, rfl, as, h, d, env, env1, S, r1, E, b1, fun σ1 E1 m1 => ?_⟩
      refine ⟨as, h, ds, env1, env', S, r2, E1, b, fun σ2 E2 m2 => q σ2 E2 ⟨m2.1.trans m1.1, fun i hi => ?_⟩⟩
      simp only [Tg.slotss, List.mem_append, not_or] at hi
      exact (m2.2 i hi.2).trans (m1.2 i hi.1)
    · cases b
theorem assignEach_len {env : PySem.Env} : ∀ es : List Expr, (assignEach es env).length = es.length
  | [] => rfl
  | e :: es => by cases e <;> simp [assignEach, assignEach_len es]
theorem assignEach_star {env : PySem.Env} : ∀ {es : List Expr}, noStar es = true → (assignEach es env).findIdx? (·.1) = none
  | [], _ => rfl
  | e :: es, h => by
    have ih := assignEach_star (env := env) (noStar_tail h)
    cases e <;> first
      | (simp [noStar] at h; done)
      | (simp only [assignEach, List.findIdx?_cons, ih]; rfl)
theorem binds_len {h : Hs} : ∀ {ts : List Tg} {ds : List D} {env env' : Env}, Tg.binds h ts ds env = some env' → ds.length = ts.length
  | [], [], _, _, _ => rfl
  | [], _ :: _, _, _, b => by simp [Tg.binds] at b
  | _ :: _, [], _, _, b => by simp [Tg.binds] at b
  | t :: ts, d :: ds, env, env', b => by
    simp only [Tg.binds] at b
    split at b
    · simp [binds_len b]
    · cases b
theorem g_t {es : List Expr} {n : Nat} {ts : List Tg} (hK : rc.K = X.K) (hc : X.calm = true) (h : PGs X es (tGs rc ts)) (hs : noStar es = true) (hl : es.length = ts.length) : PG X (.Tuple es n pos) (tG rc (.t ts)) := by
  refine (PG.or (pg_tup hc h (assignEach_len es) (assignEach_star hs)) (pg_lst hc h (assignEach_len es) (assignEach_star hs))).imp ?_
  rintro v σ H Q ⟨as, h, d, env, env', S, r, E, b, q⟩
  simp only [Tg.bind] at b
  split at b
  · rename_i xs ex
    have hq : ∀ σ', ERel rc as H env' σ' → Same_ (Tg.slotss ts) σ σ' → Q σ' H := by
      intro σ' E' m
      exact q σ' E' (by simpa [Tg.slots] using m)
    unfold unpk at ex
    split at ex
    · cases ex
      simp only [RD] at r
      obtain ⟨a, vs, rfl, sq, rs⟩ := r
      exact .inl ⟨a, vs, rfl, hK ▸ sq, by rw [← rs.length, binds_len b, hl], as, h, _, env, env', S, rs, E, b, hq⟩
    · split at ex
      · rename_i ys hn
        cases ex
        obtain ⟨a, vs, rfl, ea, sq, rs⟩ := S.list hn r
        exact .inr ⟨a, vs, rfl, .of sq, by rw [← rs.length, binds_len b, hl], as, h, _, env, env', S, rs, E, b, hq⟩
      · cases ex
    · cases ex
  · cases b

/-! ### comprehensions -/
theorem wipeE_len (env : Env) : ∀ is : List Nat, (wipeE env is).length = env.length
  | [] => rfl
  | i :: r => by simp [wipeE, wipeE_len env r]
theorem wipe_rel {as : List Addr} {H : Hp} {env : Env} {σ : Sg} (E : ERel rc as H env σ) : ∀ is : List Nat, ERel rc as H (wipeE env is) (wipe σ is)
  | [] => E
  | i :: r => by
    have ih := wipe_rel E r
    refine ⟨by simpa [wipeE, wipe] using ih.1, fun j d e => ?_⟩
    simp only [wipeE, wipe] at e ⊢
    by_cases hj : j = i
    · subst hj
      have hl : j < (wipeE env r).length := by
        have := (List.getElem?_eq_some_iff.mp e).1
        simpa using this
      rw [List.getElem?_set_self hl] at e
      cases e
    · rw [List.getElem?_set_ne (Ne.symm hj)] at e ⊢
      exact ih.2 j d e
theorem wipe_same {σ σ' : Sg} : ∀ {is : List Nat}, Same_ is (wipe σ is) σ' → wipe σ' is = wipe σ is := by
  intro is m
  have at_ : ∀ (is : List Nat) (τ : Sg) (j : Nat), (wipe τ is)[j]? = if j ∈ is then (if j < τ.length then some none else none) else τ[j]? := by
    intro is
    induction is with
    | nil => intro τ j; simp [wipe]
    | cons i r ih =>
      intro τ j
      simp only [wipe]
      by_cases hj : j = i
      · subst hj
        rw [if_pos List.mem_cons_self]
        by_cases hl : j < τ.length
        · rw [if_pos hl, List.getElem?_set_self (by rw [wipe_length]; exact hl)]
        · rw [if_neg hl, List.getElem?_eq_none]
          simp only [List.length_set, wipe_length]
          omega
      · rw [List.getElem?_set_ne (Ne.symm hj), ih]
        simp [hj]
  apply List.ext_getElem?
  intro j
  rw [at_, at_]
  have hl : σ'.length = σ.length := by rw [m.1, wipe_length]
  by_cases hj : j ∈ is
  · rw [if_pos hj, if_pos hj, hl]
  · rw [if_neg hj, if_neg hj, m.2 j hj, at_, if_neg hj]
abbrev WF : WX := fun _ _ _ _ => False
/-- the step of a tracked list that is no cell -/
theorem Stp.acc {as0 as : List Addr} {H0 H : Hp} {Dd : Addr} {xs ys : List V} (s : Stp as0 H0 as H) (h0 : Nw H0 Dd) (e : H Dd = some (.lst xs)) : Stp as0 H0 as (upd H Dd (.lst ys)) := by
  refine ⟨s.pre, s.new, fun b o q hn ht => ?_⟩
  rw [upd_ne]
  · exact s.ext b o q hn ht
  · rintro rfl
    obtain ⟨ps, z⟩ := h0 o q
    exact ht ps z
theorem Kp.acc {as : List Addr} {H : Hp} {Dd : Addr} {xs ys : List V} (e : H Dd = some (.lst xs)) : Kp as H as (upd H Dd (.lst ys)) := by
  refine ⟨⟨[], by simp⟩, fun b hb => .inl hb, fun b o q nl hn ht => ?_⟩
  rw [upd_ne]
  · exact q
  · rintro rfl
    rw [e] at q
    exact nl _ (Option.some.inj q).symm
theorem SRel.acc {as : List Addr} {h : Hs} {H : Hp} {Dd : Addr} {xs ys : List V} (S : SRel rc as h H) (e : H Dd = some (.lst xs)) (nd : Dd ∉ as) : SRel rc as h (upd H Dd (.lst ys)) :=
  S.keep' (Kp.acc e) (tabs_set S.tab e) fun a ha => upd_ne fun z => nd (z ▸ ha)
theorem Post.noX {α β : Type} {P : β → List Addr → Hs → Hp → Prop} {σ : Sg} {as : List Addr} {H : Hp} {r : R α} {g : α → Hs → R β} (σ' : Sg) (p : Post rc W σ as H P ((noX r).bind g)) :
    Post rc WF σ' as H (fun d as1 h1 H1 => Post rc W σ as1 H1 P (g d h1)) r := by
  cases r with
  | ok d h' => exact fun as1 H1 s r => Post.from s p
  | exc x h' => exact p.elim
  | stuck => exact p.elim
/-- the tests of a comprehension -/
def tC (rc : Rc) (W : WX) (f : Env → Hs → R Bool) : TT := fun σ H Q =>
  ∃ as env h, ERel rc as H env σ ∧ SRel rc as h H ∧ Post rc W σ as H (fun b _ _ H' => Q b H') (f env h)
theorem _root_.L2.PTs.imp {X : Cx} {e : List Expr} {t t' : TT} (p : PTs X e t) (k : ∀ σ H Q, t' σ H Q → t σ H Q) : PTs X e t' := ⟨fun pins s σ H Q I h => p.run pins s σ H Q I (k σ H Q h)⟩
/-- how a comprehension's tests run where there is at most one of them -/
def csRun (cs : Es) (k : Ct) (env : Env) (h : Hs) : R Bool := match cs with
  | .nil => .ok true h
  | .cons c .nil => tst0 (evE c k env h)
  | _ => .stuck
/-- what the tests of a comprehension leave: the state behind them -/
def tCs (rc : Rc) (W : WX) (cs : Es) (k : Ct) : TT := fun σ H Q =>
  ∃ as env h, ERel rc as H env σ ∧ SRel rc as h H ∧ Post rc W σ as H (fun b as' h' H' => Q b H') (csRun cs k env h)
theorem cs_nil : PTs X [] (tCs rc W .nil k) := by
  refine pts_nil.imp ?_
  rintro σ H Q ⟨as, env, h, E, S, p⟩
  exact p.ok S
theorem cs_one {c : Expr} {x : E} (hc : PT X c (tT rc W fun env h => tst0 (evE x k env h))) : PTs X [c] (tCs rc W (.cons x .nil) k) := pts_one hc
theorem evC_post {P : Bool → Hs → R β} {σ : Sg} {as : List Addr} {H : Hp} {h : Hs} {env : Env} {Pp : β → List Addr → Hs → Hp → Prop} {cs : Es} (S : SRel rc as h H) (p : Post rc W σ as H Pp ((evC cs k env h).bind P)) :
    Post rc W σ as H (fun c _ _ H' => ∃ as'' h'', Stp as H as'' H' ∧ SRel rc as'' h'' H' ∧ Post rc W σ as'' H' Pp (P c h'')) (csRun cs k env h) := by
  cases cs with
  | nil =>
    rw [evC] at p
    exact fun as' H' s S' => ⟨as', h, s, S', Post.from s p⟩
  | cons c r =>
    cases r with
    | nil =>
      rw [evC] at p
      exact Post.tst S p
    | cons d r =>
      rw [evC] at p
      · exact p.elim
      all_goals simp
/-- one turn of a comprehension -/
def turnC (e : E) (t : Tg) (cs : Es) (k : Ct) (env : Env) (x : D) (h : Hs) : R (Option D) :=
  (ofO (t.bind h x (wipeE env t.slots)) h).bind fun env h => (evC cs k env h).bind fun b h => if b then (gc h (evE e k env h)).bind fun y h => .ok (some y) h else .ok none h
theorem evL_comp (e : E) (t : Tg) (g : It) (cs : Es) (k : Ct) (env : Env) (h : Hs) : evL (.comp e t g cs) k env h = (evI g k env h).bind fun p h1 => loopC p.2 (turnC e t cs k env) p.1 h1 := by
  rw [evL]
  rfl
theorem not_mem_step {as as1 : List Addr} {H H1 : Hp} {a : Addr} {xs : List V} (s : Stp as H as1 H1) (e : H a = some (.lst xs)) (n : a ∉ as) : a ∉ as1 := fun hm => by
  rcases s.new a hm with z | z
  · exact n z
  · obtain ⟨ps, z⟩ := z _ e
    cases z
theorem drop_get {α : Type} {xs : List α} {i : Nat} (hi : i < xs.length) : ∃ d, xs[i]? = some d ∧ xs.drop i = d :: xs.drop (i + 1) :=
  ⟨xs[i], List.getElem?_eq_getElem hi, List.drop_eq_getElem_cons hi⟩
/-- what a turn of a comprehension's block asks, where it comes to an end -/
theorem turn_block {e : E} {t : Tg} {cs : Es} {env : Env} {σ : Sg} {as : List Addr} {H : Hp} {h hf : Hs} {x : D} {v : V} {o : Option D} {Nx : Option D → List Addr → Hp → Prop}
    (S : SRel rc as h H) (E : ERel rc as H env σ) (r : RD rc as H x v) (ev : turnC e t cs k env x h = .ok o hf)
    (fin : ∀ as' H', Stp as H as' H' → SRel rc as' hf H' → Nx o as' H')
    {Qy : V → Hp → Prop} {Qn : Hp → Prop} (hy : ∀ y as' H', o = some y → Stp as H as' H' → SRel rc as' hf H' → ∀ u, RD rc as' H' y u → Qy u H') (hn : ∀ as' H', o = none → Stp as H as' H' → SRel rc as' hf H' → Qn H') :
    tG rc t v (wipe σ t.slots) H fun σ2 H2 => wipe σ2 t.slots = wipe σ t.slots ∧ tCs rc WF cs k σ2 H2 fun b H3 => if b = true then tE rc WF (evE e k) σ2 H3 Qy else Qn H3 := by
  have p : ∀ σ', Post rc WF σ' as H (fun o' as' h' H' => o' = o ∧ h' = hf) (turnC e t cs k env x h) := fun σ' => by
    rw [ev]
    exact fun _ _ _ _ => ⟨rfl, rfl⟩
  unfold turnC at p
  obtain ⟨env1, eb, _⟩ := (p []).bind.ofO S
  rw [eb] at p
  refine ⟨as, h, x, wipeE env t.slots, env1, S, r, wipe_rel E _, eb, fun σ2 E2 m2 => ⟨wipe_same m2, as, env1, h, E2, S, ?_⟩⟩
  refine (evC_post S (p σ2)).imp ?_
  rintro b _ _ H3 _ _ ⟨as3, h3, s3, S3, p3⟩
  cases b with
  | false =>
    rw [if_neg (by decide)] at p3 ⊢
    obtain ⟨e1, e2⟩ := p3.ok S3
    exact hn as3 H3 e1.symm s3 (e2 ▸ S3)
  | true =>
    rw [if_pos rfl] at p3 ⊢
    refine ⟨as3, env1, h3, E2.mono S s3, S3, (Post.gc S3 p3.bind).imp ?_⟩
    rintro y as4 h4 H4 s4 S4 ⟨as5, h5, s5, S5, p5, rr⟩ u ru
    obtain ⟨e1, e2⟩ := p5.ok S5
    exact hy y as5 H4 e1.symm (s3.trans s5) (e2 ▸ S5) u (rr u ru)
theorem i_comp {e : E} {t : Tg} {g : It} {cs : Es} {σ : Sg} {H : Hp} {Q : VK} (q : tL rc W (evL (.comp e t g cs) k) σ H Q) : tLc (tI rc W (evI g k)) (tG rc t) (tCs rc WF cs k) (tE rc WF (evE e k)) t.slots σ H Q := by
  obtain ⟨as, env, h, E, S, p⟩ := q
  rw [evL_comp] at p
  refine ⟨as, env, h, E, S, p.bind.imp fun pr as0 h0 H0 s0 S0 p0 J wk Dd hD => ?_⟩
  have hD0 : Nw H Dd := s0.was S0 hD
  refine ⟨fun i m H1 => m = pr.1.length - i ∧ i ≤ pr.1.length ∧ ∃ as1 h1 acc dacc, Stp as0 H0 as1 H1 ∧ SRel rc as1 h1 H1 ∧ H1 Dd = some (.lst acc) ∧ Dd ∉ as1 ∧ RDs rc as1 H1 dacc acc ∧ acc.length ≤ i ∧
    Post rc W σ as0 H0 (fun ds as' h' H' => ∀ a vs, H' a = some (.lst vs) → a ∉ as' → Nw H a → RDs rc as' H' (dacc ++ ds) vs → Q (.ref a) H') (loopC pr.2 (turnC e t cs k env) (pr.1.drop i) h1), ⟨_, rfl, Nat.zero_le _, as0, h0, [], [], ?_⟩, ?_⟩
  · obtain ⟨s1, S1⟩ := newObj (o := .lst []) S0 hD
    exact ⟨s1, S1, upd_same, S0.free hD, RDs.nil, Nat.zero_le _, p0⟩
  · rintro i m H1 ⟨rfl, hi, as1, h1, acc, dacc, s1, S1, eD, nD, ra, hl, p1⟩
    by_cases hlt : i < pr.1.length
    · right
      obtain ⟨d, ed, edr⟩ := drop_get hlt
      rw [edr, loopC] at p1
      by_cases hg : pr.2.ok h1 = true
      · rw [if_pos hg] at p1
        obtain ⟨t1, t2⟩ := (wk.turn i as1 H1 h1 s1 S1 hg).1 d ed
        cases ev : turnC e t cs k env d h1 with
        | ok o hf =>
          rw [ev, noX_ok, R.bind_ok] at p1
          -- what stands behind the turn
          have next : ∀ (as3 : List Addr) (H3 : Hp) (acc3 : List V) (dacc3 : List D), Stp as1 H1 as3 H3 → SRel rc as3 hf H3 → (∃ u, dacc3 = dacc ++ (match o with | some y => [y] | none => []) ∧ acc3 = acc ++ u ∧ RDs rc as3 H3 (match o with | some y => [y] | none => []) u) →
              (∀ acc0, H3 Dd = some (.lst acc0) → acc0 = acc) → ∃ m', m' < pr.1.length - i ∧ (m' = pr.1.length - (i + 1) ∧ i + 1 ≤ pr.1.length ∧ ∃ as1 h1 acc dacc, Stp as0 H0 as1 (upd H3 Dd (.lst acc3)) ∧ SRel rc as1 h1 (upd H3 Dd (.lst acc3)) ∧ (upd H3 Dd (.lst acc3)) Dd = some (.lst acc) ∧ Dd ∉ as1 ∧ RDs rc as1 (upd H3 Dd (.lst acc3)) dacc acc ∧ acc.length ≤ i + 1 ∧
                Post rc W σ as0 H0 (fun ds as' h' H' => ∀ a vs, H' a = some (.lst vs) → a ∉ as' → Nw H a → RDs rc as' H' (dacc ++ ds) vs → Q (.ref a) H') (loopC pr.2 (turnC e t cs k env) (pr.1.drop (i + 1)) h1)) := by
            rintro as3 H3 acc3 dacc3 s3 S3 ⟨u, rfl, rfl, ru⟩ _
            have e3 : H3 Dd = some (.lst acc) := s3.ext Dd _ eD (.inl nD) fun ps e => nomatch e
            have n3 : Dd ∉ as3 := not_mem_step s3 eD nD
            have lu : u.length ≤ 1 := by
              rw [← ru.length]
              cases o <;> simp
            refine ⟨_, by omega, rfl, by omega, as3, hf, _, _, (s1.trans s3).acc (.of hD) e3, S3.acc e3 n3, upd_same, n3, ((ra.mono' s3.kp).app ru).mono' (Kp.acc e3), by simp only [List.length_append]; omega, ?_⟩
            refine p1.bind.imp fun ds as' h' H' _ S' pp => ?_
            have pp2 := pp.ok S'
            cases o with
            | none => simpa using pp2
            | some y => simpa using pp2
          refine ⟨t1, _, fun H' z => z, fun x H2 hy => ?_⟩
          obtain ⟨sy, Sy, ry, ky⟩ := t2 x H2 hy
          have E2 : ERel rc as1 H2 env σ := (E.mono S (s0.trans s1)).mono S1 sy
          refine turn_block (Nx := fun _ _ _ => True) Sy E2 ry ev (fun _ _ _ _ => trivial) ?_ ?_
          · intro y as3 H3 eo s3 S3 u ru
            subst eo
            have s13 := sy.trans s3
            have e3 : H3 Dd = some (.lst acc) := s13.ext Dd _ eD (.inl nD) fun ps e => nomatch e
            refine ⟨acc, e3, ?_, next as3 H3 (acc ++ [u]) (dacc ++ [y]) s13 S3 ⟨[u], rfl, rfl, RDs.cons ru RDs.nil⟩ fun a0 h => by rw [e3] at h; cases h; rfl⟩
            exact Nat.lt_of_le_of_lt hl (Nat.lt_of_lt_of_le hlt wk.len)
          · intro as3 H3 eo s3 S3
            subst eo
            have s13 := sy.trans s3
            have e3 : H3 Dd = some (.lst acc) := s13.ext Dd _ eD (.inl nD) fun ps e => nomatch e
            obtain ⟨m', h1, h2⟩ := next as3 H3 acc dacc s13 S3 ⟨[], by simp, by simp, RDs.nil⟩ fun a0 h => by rw [e3] at h; cases h; rfl
            have eu : upd H3 Dd (.lst acc) = H3 := by
              funext b
              unfold upd
              split
              · rename_i hb
                rw [hb, e3]
              · rfl
            rw [eu] at h2
            exact ⟨m', h1, h2⟩
        | exc x hf =>
          rw [ev] at p1
          exact p1.elim
        | stuck =>
          rw [ev] at p1
          exact p1.elim
      · rw [if_neg hg] at p1
        exact p1.elim
    · left
      have ei : i = pr.1.length := by omega
      subst ei
      rw [List.drop_length, loopC] at p1
      by_cases hg : pr.2.ok h1 = true
      · rw [if_pos hg] at p1
        refine ⟨(wk.turn _ as1 H1 h1 s1 S1 hg).2 rfl, ?_⟩
        exact p1 as1 H1 s1 S1 Dd acc eD nD hD0 (by simpa using ra)
      · rw [if_neg hg] at p1
        exact p1.elim
theorem l_comp {elt tg iter : Expr} {ifs : List Expr} {scope : Scope} {own : List (Str × Nat)} {e : E} {t : Tg} {g : It} {cs : Es} (hc : X.calm = true) (hN : X.N.Nodup) (hi : PI X tg iter (tI rc W (evI g k))) (hown : own.map (·.2) = t.slots) (ok : BlkOk X.N X.env.scope scope own)
    (hg : ∀ (s : Shared) (H : Hp) (C : Addr) (cl : List (Str × Addr)) (fp : List Addr), PG (X.blk s H scope (compEnvC scope cl C X.env) fp) tg (tG rc t)) (ht : ∀ (s : Shared) (H : Hp) (C : Addr) (cl : List (Str × Addr)) (fp : List Addr), PTs (X.blk s H scope (compEnvC scope cl C X.env) fp) ifs (tCs rc WF cs k))
    (he : ∀ (s : Shared) (H : Hp) (C : Addr) (cl : List (Str × Addr)) (fp : List Addr), PE (X.blk s H scope (compEnvC scope cl C X.env) fp) elt (tE rc WF (evE e k))) (hs : ∀ x, foldedSetIterable iter X.env x = pure x) :
    PE X (.ListComp elt [⟨tg, iter, ifs, 0⟩] scope pos) (tL rc W (evL (.comp e t g cs) k)) :=
  (pe_lc hc hN hi ok hg ht he hs).imp fun σ H Q q => by rw [hown]; exact i_comp q
end
end MI
end
section
/-! MK: statements. -/
namespace MI
open PySem PySem.Spec PyProof.Rows L2
/-- what stands behind a statement's run -/
def PostS (rc : Rc) (W : WX) (Dn : Ends) (as : List Addr) (H : Hp) (r : RS) : Prop :=
  match r with
  | .next env h => ∀ as' H' σ', Stp as H as' H' → SRel rc as' h H' → ERel rc as' H' env σ' → Dn.nx σ' H'
  | .brk env h => ∀ as' H' σ', Stp as H as' H' → SRel rc as' h H' → ERel rc as' H' env σ' → Dn.bk σ' H'
  | .cont env h => ∀ as' H' σ', Stp as H as' H' → SRel rc as' h H' → ERel rc as' H' env σ' → Dn.ct σ' H'
  | .ret d h => ∀ as' H' v, Stp as H as' H' → SRel rc as' h H' → RD rc as' H' d v → Dn.rt v H'
  | .exc x env h => ∀ as' H' σ' cls dd, Stp as H as' H' → SRel rc as' h H' → ERel rc as' H' env σ' → XRel rc as' H' x cls dd → W cls dd σ' H'
  | .stuck => False
def tS (rc : Rc) (W : WX) (f : Env → Hs → RS) : TS := fun D σ H =>
  ∃ as env h, ERel rc as H env σ ∧ SRel rc as h H ∧ PostS rc W D as H (f env h)
theorem _root_.L2.PS.imp {X : Cx} {e : Stmt} {t t' : TS} (p : PS X e t) (k : ∀ D σ H, t' D σ H → t D σ H) : PS X e t' := ⟨fun pins s σ H D I h => p.run pins s σ H D I (k D σ H h)⟩
theorem _root_.L2.PSs.imp {X : Cx} {e : List Stmt} {t t' : TS} (p : PSs X e t) (k : ∀ D σ H, t' D σ H → t D σ H) : PSs X e t' := ⟨fun pins s σ H D I h => p.run pins s σ H D I (k D σ H h)⟩
section
variable {X : Cx} {rc : Rc} {W : WX} {Dn : Ends} {σ : Sg} {as as1 : List Addr} {H H1 : Hp} {env : Env} {h : Hs} {k : Ct} {pos : Pos} {α : Type}
theorem PostS.from {r : RS} (s : Stp as H as1 H1) (p : PostS rc W Dn as H r) : PostS rc W Dn as1 H1 r := by
  cases r with
  | next e h => exact fun as' H' σ' s' r => p as' H' σ' (s.trans s') r
  | brk e h => exact fun as' H' σ' s' r => p as' H' σ' (s.trans s') r
  | cont e h => exact fun as' H' σ' s' r => p as' H' σ' (s.trans s') r
  | ret d h => exact fun as' H' v s' r => p as' H' v (s.trans s') r
  | exc x e h => exact fun as' H' σ' cls dd s' r => p as' H' σ' cls dd (s.trans s') r
  | stuck => exact p
theorem PostS.then {r : R α} {g : α → Hs → RS} (E : ERel rc as H env σ) (p : PostS rc W Dn as H (r.then env g)) :
    Post rc W σ as H (fun d as1 h1 H1 => PostS rc W Dn as1 H1 (g d h1)) r := by
  cases r with
  | ok d h' => exact fun as1 H1 s S => p.from s
  | exc x h' => exact fun as' H' cls dd s S xr => p as' H' σ cls dd s S (E.mono' s.kp) xr
  | stuck => exact p
theorem PostS.nx (S : SRel rc as h H) (E : ERel rc as H env σ) (p : PostS rc W Dn as H (.next env h)) : Dn.nx σ H := p as H σ .refl S E
theorem ss_nil : PSs X [] (tS rc W (evSs .nil k)) := by
  refine pss_nil.imp ?_
  rintro Dn σ H ⟨as, env, h, E, S, p⟩
  rw [evSs] at p
  exact p.nx S E
theorem tS_next {f : Env → Hs → RS} {r : RS} (p : PostS rc W Dn as H (r.next' f)) : PostS rc W { Dn with nx := tS rc W f Dn } as H r := by
  cases r with
  | next e h => exact fun as' H' σ' s S E => ⟨as', e, h, E, S, PostS.from s p⟩
  | brk e h => exact p
  | cont e h => exact p
  | ret d h => exact p
  | exc x e h => exact p
  | stuck => exact p
theorem ss_cons {st : Stmt} {sts : List Stmt} {s : S} {ss : Ss} (h1 : PS X st (tS rc W (evS s k))) (h2 : PSs X sts (tS rc W (evSs ss k))) : PSs X (st :: sts) (tS rc W (evSs (.cons s ss) k)) := by
  refine (pss_cons h1 h2).imp ?_
  rintro Dn σ H ⟨as, env, h, E, S, p⟩
  rw [evSs] at p
  exact ⟨as, env, h, E, S, tS_next p⟩
/-- an expression's value, what was laid meanwhile may be forgotten -/
theorem gcE {f : Env → Hs → R D} {P : D → List Addr → Hs → Hp → Prop} (E : ERel rc as H env σ) (S : SRel rc as h H) (p : Post rc W σ as H P (gc h (f env h))) :
    tE rc W f σ H fun v H' => ∃ d as' h', Stp as H as' H' ∧ SRel rc as' h' H' ∧ RD rc as' H' d v ∧ P d as' h' H' := by
  refine ⟨as, env, h, E, S, (Post.gc S p).imp ?_⟩
  rintro d as' h' H' s' S' ⟨as2, h2, s2, S2, q, rr⟩ v r
  exact ⟨d, as2, h2, s2, S2, rr v r, q⟩
theorem s_assign {tg e : Expr} {t : Tg} {x : E} (he : PE X e (tE rc W (evE x k))) (hg : PG X tg (tG rc t)) (hs : swapsWithSole [tg] e pos.line X.env = pure false) (hw : swappedStores [tg] e X.env = pure none)
    (h1 : (assignEach [tg] X.env).map (·.2) = [assign tg X.env]) : PS X (.Assign [tg] e pos) (tS rc W (evS (.assign t x) k)) := by
  refine (ps_asg he hg hs hw h1).imp ?_
  rintro Dn σ H ⟨as, env, h, E, S, p⟩
  rw [evS] at p
  refine tE.mono ?_ (gcE E S (p.then E))
  rintro v H' ⟨d, as', h', s', S', r, q⟩
  split at q
  · rename_i env' eb
    refine ⟨as', h', d, env, env', S', r, E.mono S s', eb, fun σ' E' _ => q.nx S' E'⟩
  · exact q.elim
theorem s_expr {e : Expr} {x : E} (he : PE X e (tE rc W (evE x k))) (hs : swapsWith e none pos.line X.env = pure false) : PS X (.Expr e pos) (tS rc W (evS (.expr x) k)) := by
  refine (ps_expr he hs).imp ?_
  rintro Dn σ H ⟨as, env, h, E, S, p⟩
  rw [evS] at p
  refine tE.mono ?_ (gcE E S (p.then E))
  rintro v H' ⟨d, as', h', s', S', r, q⟩
  exact q.nx S' (E.mono S s')
theorem s_ret {e : Expr} {x : E} (he : PE X e (tE rc W (evE x k))) : PS X (.Return (some e) pos) (tS rc W (evS (.ret x) k)) := by
  refine (ps_ret he).imp ?_
  rintro Dn σ H ⟨as, env, h, E, S, p⟩
  rw [evS] at p
  refine ⟨as, env, h, E, S, (p.then E).imp ?_⟩
  intro d as' h' H' s' S' q v r
  exact q as' H' v .refl S' r
theorem s_retn : PS X (.Return none pos) (tS rc W (evS .retn k)) := by
  refine ps_retN.imp ?_
  rintro Dn σ H ⟨as, env, h, E, S, p⟩
  rw [evS] at p
  exact p as H .non .refl S (by simp only [RD])
theorem s_pass : PS X (.Pass pos) (tS rc W (evS .pass k)) := by
  refine ps_pass.imp ?_
  rintro Dn σ H ⟨as, env, h, E, S, p⟩
  rw [evS] at p
  exact p.nx S E
theorem s_brk : PS X (.Break pos) (tS rc W (evS .brk k)) := by
  refine ps_break.imp ?_
  rintro Dn σ H ⟨as, env, h, E, S, p⟩
  rw [evS] at p
  exact p as H σ .refl S E
theorem s_cont : PS X (.Continue pos) (tS rc W (evS .cont k)) := by
  refine ps_continue.imp ?_
  rintro Dn σ H ⟨as, env, h, E, S, p⟩
  rw [evS] at p
  exact p as H σ .refl S E
/-- a test of a statement -/
theorem PostS.tst {g : Bool → Hs → RS} {r : R D} (E : ERel rc as H env σ) (S : SRel rc as h H) (p : PostS rc W Dn as H ((tst h r).then env g)) :
    Post rc W σ as H (fun b as1 h1 H1 => PostS rc W Dn as1 H1 (g b h1)) (tst h r) := p.then E
theorem s_ite {c : Expr} {a b : List Stmt} {t : E} {x y : Ss} (hc : PT X c (tT rc W fun env h => tst h (evE t k env h))) (ha : PSs X a (tS rc W (evSs x k))) (hb : PSs X b (tS rc W (evSs y k))) : PS X (.If c a b pos) (tS rc W (evS (.ite t x y) k)) := by
  refine (ps_if hc ha hb).imp ?_
  rintro Dn σ H ⟨as, env, h, E, S, p⟩
  rw [evS] at p
  refine ⟨as, env, h, E, S, (p.then E).imp ?_⟩
  intro b as' h' H' s' S' q
  cases b with
  | true => exact ⟨as', env, h', E.mono S s', S', q⟩
  | false => exact ⟨as', env, h', E.mono S s', S', q⟩
/-- a turn of a loop -/
theorem PostS.turn {kk : Env → Hs → RS} {N : Sg → Hp → Prop} {r : RS} (p : PostS rc W Dn as H (match r with
    | .next e h => kk e h
    | .cont e h => kk e h
    | .brk e h => .next e h
    | r => r)) (hN : ∀ e h as' H' σ', Stp as H as' H' → SRel rc as' h H' → ERel rc as' H' e σ' → PostS rc W Dn as' H' (kk e h) → N σ' H') :
    PostS rc W { Dn with nx := N, ct := N, bk := Dn.nx } as H r := by
  cases r with
  | next e h => exact fun as' H' σ' s S E => hN e h as' H' σ' s S E (PostS.from s p)
  | cont e h => exact fun as' H' σ' s S E => hN e h as' H' σ' s S E (PostS.from s p)
  | brk e h => exact p
  | ret d h => exact p
  | exc x e h => exact p
  | stuck => exact p
theorem s_while {c : Expr} {body : List Stmt} {t : E} {b : Ss} (hp : PassesOwn (model X.prog X.w) X.A X.env X.xe) (hc : PT X c (tT rc W fun env h => tst h (evE t k env h))) (hb : PSs X body (tS rc W (evSs b k))) : PS X (.While c body [] pos) (tS rc W (evS (.while_ t b) k)) := by
  refine (ps_while hp hc hb).imp ?_
  rintro Dn σ H ⟨as, env, h, E, S, p⟩
  rw [evS] at p
  refine ⟨fun n σ H => ∃ as env h, ERel rc as H env σ ∧ SRel rc as h H ∧ PostS rc W Dn as H (loopW (fun env h => MI.tst h (evE t k env h)) (fun env h => evSs b k env h) n env h), ⟨_, as, env, h, E, S, p⟩, ?_⟩
  rintro n σ H ⟨as, env, h, E, S, p⟩
  cases n with
  | zero => exact p.elim
  | succ n =>
    rw [loopW] at p
    refine ⟨as, env, h, E, S, (p.then E).imp ?_⟩
    intro c as' h' H' s' S' q
    cases c with
    | false => exact q.nx S' (E.mono S s')
    | true =>
      refine ⟨fun σ' H' => ∃ as env h, ERel rc as H' env σ' ∧ SRel rc as h H' ∧ PostS rc W Dn as H' (loopW (fun env h => MI.tst h (evE t k env h)) (fun env h => evSs b k env h) n env h), fun σ' H' z => ⟨n, Nat.lt_succ_self n, z⟩, ?_⟩
      exact ⟨as', env, h', E.mono S s', S', q.turn fun e h as' H' σ' _ S' E' z => ⟨as', e, h, E', S', z⟩⟩
theorem s_for {tg iter : Expr} {body : List Stmt} {t : Tg} {g : It} {b : Ss} (hp : PassesOwn (model X.prog X.w) X.A X.env X.xe) (hc : X.calm = true) (hi : PI X tg iter (tI rc W (evI g k))) (hg : PG X tg (tG rc t)) (hb : PSs X body (tS rc W (evSs b k)))
    (hs : ∀ x, foldedSetIterable iter X.env x = pure x) : PS X (.For tg iter body [] pos) (tS rc W (evS (.for_ t g b) k)) := by
  refine (ps_for hp hc hi hg hb hs).imp ?_
  rintro Dn σ H ⟨as, env, h, E, S, p⟩
  rw [evS] at p
  refine ⟨as, env, h, E, S, (p.then E).imp ?_⟩
  intro pr as0 h0 H0 s0 S0 p0 J wk
  let F : D → Env → Hs → RS := fun x env h => match t.bind h x env with
    | some env => evSs b k env h
    | none => .stuck
  refine ⟨fun i m σ H => m = pr.1.length - i ∧ i ≤ pr.1.length ∧ ∃ as env h, Stp as0 H0 as H ∧ ERel rc as H env σ ∧ SRel rc as h H ∧ PostS rc W Dn as H (loopF pr.2 F (pr.1.drop i) env h), ⟨_, rfl, Nat.zero_le _, as0, env, h0, .refl, E.mono S s0, S0, p0⟩, ?_⟩
  rintro i m σ1 H1 ⟨rfl, hi, as1, env1, h1, s1, E1, S1, p1⟩
  by_cases hlt : i < pr.1.length
  · right
    obtain ⟨d, ed, edr⟩ := drop_get hlt
    rw [edr, loopF] at p1
    by_cases hg : pr.2.ok h1 = true
    · rw [if_pos hg] at p1
      obtain ⟨t1, t2⟩ := (wk.turn i as1 H1 h1 s1 S1 hg).1 d ed
      refine ⟨t1, fun σ' H' => ∃ as' e' h', Stp as0 H0 as' H' ∧ ERel rc as' H' e' σ' ∧ SRel rc as' h' H' ∧ PostS rc W Dn as' H' (loopF pr.2 F (pr.1.drop (i + 1)) e' h'), fun σ' H' z => ⟨_, by omega, rfl, by omega, z⟩, fun x H2 hy => ?_⟩
      obtain ⟨sy, Sy, ry, _⟩ := t2 x H2 hy
      have E2 := E1.mono S1 sy
      have p2 : PostS rc W { Dn with nx := fun σ' H' => ∃ as' e' h', Stp as0 H0 as' H' ∧ ERel rc as' H' e' σ' ∧ SRel rc as' h' H' ∧ PostS rc W Dn as' H' (loopF pr.2 F (pr.1.drop (i + 1)) e' h'), ct := fun σ' H' => ∃ as' e' h', Stp as0 H0 as' H' ∧ ERel rc as' H' e' σ' ∧ SRel rc as' h' H' ∧ PostS rc W Dn as' H' (loopF pr.2 F (pr.1.drop (i + 1)) e' h'), bk := Dn.nx } as1 H2 (F d env1 h1) :=
        (PostS.from sy p1).turn fun e h as' H' σ' s' S' E' z => ⟨as', e, h, (s1.trans sy).trans s', E', S', z⟩
      cases eb : t.bind h1 d env1 with
      | none =>
        simp only [F, eb] at p2
        exact p2.elim
      | some env2 =>
        simp only [F, eb] at p2
        exact ⟨as1, h1, d, env1, env2, Sy, ry, E2, eb, fun σ' E' _ => ⟨as1, env2, h1, E', Sy, p2⟩⟩
    · rw [if_neg hg] at p1
      exact p1.elim
  · left
    have ei : i = pr.1.length := by omega
    subst ei
    rw [List.drop_length, loopF] at p1
    by_cases hg : pr.2.ok h1 = true
    · rw [if_pos hg] at p1
      exact ⟨(wk.turn _ as1 H1 h1 s1 S1 hg).2 rfl, p1.nx S1 E1⟩
    · rw [if_neg hg] at p1
      exact p1.elim
end
end MI
end
section
/-! ML: stores into lists, methods of lists, exceptions, pairs of names, a name for a comprehension. -/
namespace MI
open PySem PySem.Spec PyProof.Rows L2
section
variable {X : Cx} {rc : Rc} {W : WX} {Dn : Ends} {σ : Sg} {as as1 : List Addr} {H H1 : Hp} {env : Env} {h : Hs} {k : Ct} {pos tpos apos : Pos} {o i e a : Expr}
/-! ### op= -/
def rIp (op : Bop) : R2 := fun x y H Q => ∃ i j m, x = .int i ∧ y = .int j ∧ op.irun (.int i) (.int j) = some (.int m) ∧ Q (.int m) H
theorem irun_ok {op : Bop} {x y d : D} (h : op.irun x y = some d) : ∃ i j m, x = .int i ∧ y = .int j ∧ d = .int m := by
  unfold Bop.irun at h
  split at h
  · cases h; exact ⟨_, _, _, rfl, rfl, rfl⟩
  · cases h; exact ⟨_, _, _, rfl, rfl, rfl⟩
  · split at h
    · cases h; exact ⟨_, _, _, rfl, rfl, rfl⟩
    · cases h
  · cases h
theorem p_aug (op : Bop) : PIp X op.py (rIp op) := by
  intro pins s σ H x y v u Q I rx ry h
  obtain ⟨i, j, m, rfl, rfl, e, q⟩ := h
  cases op <;> simp only [Bop.irun] at e
  · cases e
    exact iop_add pins s σ H _ _ v u Q I rx ry ⟨i, j, rfl, rfl, q⟩
  · cases e
    exact iop_sub pins s σ H _ _ v u Q I rx ry ⟨i, j, rfl, rfl, q⟩
  · split at e
    · rename_i hs
      cases e
      refine iop_mul pins s σ H _ _ v u Q I rx ry ⟨i, j, rfl, rfl, ?_, q⟩
      rcases Bool.or_eq_true _ _ ▸ hs with z | z
      · exact .inl (small64_ok z)
      · exact .inr (small64_ok z)
    · cases e
  all_goals cases e
theorem s_aug {n : Nat} {x : Str} {op : Bop} {z : E} {pos' : Pos} (hN : X.N.Nodup) (hi : X.N[n]? = some x) (hx : Loc X.env.scope x) (hf : X.fn x = true ∨ X.env.scope.names.lookup x = some .local) (he : PE X e (tE rc W (evE z k))) :
    PS X (.AugAssign (.Name x pos') op.py e pos) (tS rc W (evS (.aug n op z) k)) := by
  refine (ps_aug hN hi hx he (p_aug op) hf).imp ?_
  rintro Dn σ H ⟨as, env, h, E, S, p⟩
  rw [evS] at p
  split at p
  · rename_i d0 hd
    obtain ⟨v0, e0, r0⟩ := E.2 n d0 hd
    refine ⟨v0, e0, tE.mono ?_ (gcE E S (p.then E))⟩
    rintro v H' ⟨d, as', h', s', S', r, q⟩
    split at q
    · rename_i g eg
      obtain ⟨i, j, m, rfl, rfl, rfl⟩ := irun_ok eg
      simp only [RD] at r r0
      subst r r0
      exact ⟨i, j, m, rfl, rfl, eg, q.nx S' ((E.mono S s').set (by simp only [RD]))⟩
    · exact q.elim
  · exact p.elim
/-! ### o[i] = v -/
/-- the step of a store -/
def rPut (rc : Rc) : TSet := fun o i v H Q => ∃ as h d e g h', SRel rc as h H ∧ RD rc as H d o ∧ RD rc as H e i ∧ RD rc as H g v ∧ setD d e g h = some h' ∧ ∀ H', Stp as H as H' → SRel rc as h' H' → Q H'
theorem set_at {xs : List V} {i : Int} {n : Nat} (e : ixAt xs.length i = some n) : ixN xs.length i = some n := e
theorem put_l : PSet X (rPut rc) := by
  rintro pins s σ H o i v ov iv u Q I ro ri rv ⟨as, h, d, e, g, h', S, rd, re, rg, ep, q⟩
  unfold setD at ep
  split at ep
  · rename_i a
    split at ep
    · rename_i xs hx
      split at ep
      · rename_i j
        obtain ⟨n, en, rfl⟩ := Option.map_eq_some_iff.mp ep
        obtain ⟨p, vs, rfl, ea, hp, rs⟩ := S.list hx rd
        simp only [RD] at re
        subst re
        obtain ⟨s1, S1⟩ := setCell (ds := xs.set n g) (vs := vs.set n v) S ea hp (rs.set n rg)
        exact set_list pins s σ H _ _ v ov iv u Q I ro ri rv ⟨p, vs, j, n, rfl, rfl, hp, by rw [← rs.length]; exact en, q _ s1 S1⟩
      · cases ep
    · rename_i kvs hx
      obtain ⟨p, _, m⟩ := S.at hx
      exact m.elim
    · cases ep
  · cases ep
theorem s_asub {x y z : E} (ho : PE X o (tE rc W (evE x k))) (hi : PE X i (tE rc W (evE y k))) (he : PE X e (tE rc W (evE z k))) (hs : swapsWithSole [.Subscript o i tpos] e pos.line X.env = pure false) (hw : swappedStores [.Subscript o i tpos] e X.env = pure none) (hn : notSlice i = true) :
    PS X (.Assign [.Subscript o i tpos] e pos) (tS rc W (evS (.asub x y z) k)) := by
  have ha : ∀ v, assign (.Subscript o i tpos) X.env v = (do
      let ov ← holding [v] (eval o X.env)
      let iv ← holding [v, ov] (eval i X.env)
      standAt tpos
      holding [v, ov, iv] (setItem ov iv v)
      release [v, ov, iv] []) := by
    intro v
    cases i <;> first
      | rfl
      | (simp [notSlice] at hn; done)
  refine (ps_asg he (pg_sub ho hi (put_l (rc := rc)) ha) hs hw).imp ?_
  rintro Dn σ H ⟨as, env, h, E, S, p⟩
  rw [evS] at p
  refine ⟨as, env, h, E, S, (p.then E).imp ?_⟩
  intro d1 as1 h1 H1 s1 S1 p1 v1 r1
  have E1 := E.mono S s1
  refine ⟨as1, env, h1, E1, S1, (p1.then E1).imp ?_⟩
  intro d2 as2 h2 H2 s2 S2 p2 v2 r2
  have E2 := E1.mono S1 s2
  refine ⟨as2, env, h2, E2, S2, (p2.then E2).imp ?_⟩
  intro d3 as3 h3 H3 s3 S3 p3 v3 r3
  have E3 := E2.mono S2 s3
  split at p3
  · rename_i h4 e4
    exact ⟨as3, h3, d2, d3, d1, h4, S3, r2.mono S2 s3, r3, (r1.mono S1 s2).mono S2 s3, e4, fun H' s' S' => p3 as3 H' _ s' S' (E3.mono S3 s')⟩
  · exact p3.elim
/-- o[i] of a list, by values -/
def rGet (rc : Rc) : V → V → Hp → VK → Prop := fun o i H Q => ∃ as h d e g, SRel rc as h H ∧ RD rc as H d o ∧ RD rc as H e i ∧ gidxD h d e = some g ∧ ∀ v, RD rc as H g v → Q v H
theorem get_l : PGet X (rGet rc) := by
  rintro pins s σ H o i ov iv Q I ro ri ⟨as, h, d, e, g, S, rd, re, eg, q⟩
  unfold gidxD at eg
  split at eg
  case h_2 => cases eg
  rename_i n
  split at eg
  case h_2 => cases eg
  rename_i xs hx
  unfold idxD at eg
  simp only [hx] at eg
  obtain ⟨p, vs, rfl, ea, hp, rs⟩ := S.list hx rd
  cases e with
  | int i =>
    simp only [RD] at re
    subst re
    cases ro
    obtain ⟨t, rfl⟩ := ri
    obtain ⟨z, ez, rz⟩ := atI_of rs.length (fun k x ex => rs.get ex) eg
    obtain ⟨its, r, pl, hz⟩ := I.list (.of hp)
    obtain ⟨j, h1, h2, h3, h4, h5⟩ := atI_get ez
    obtain ⟨w, ew, rw'⟩ := r.get h2
    have hl := r.length
    have hn := line63
    have fin : EP X pins σ Q w s := ⟨z, H, I, rw', q _ rz⟩
    by_cases h0 : 0 ≤ i
    · have hj : i.toNat = j := by
        rw [seqIndex_of h0 h5] at h1
        exact Option.some.inj h1
      exact wpAny_getItem_list pl.isList h0 (by omega) (by rw [hj]; simpa using ew) fin
    · have hj : (i + (its.toArray.size : Int)).toNat = j := by
        rw [seqIndex_neg (by omega) h4] at h1
        rw [List.size_toArray, ← hl]
        exact Option.some.inj h1
      exact wpAny_getItem_list_neg pl.isList (by omega) (by rw [List.size_toArray] <;> omega) (by omega) (by rw [hj]; simpa using ew) fin
  | _ => cases eg
theorem s_augsub {x y z : E} {op : Bop} (ho : PE X o (tE rc W (evE x k))) (hi : PE X i (tE rc W (evE y k))) (he : PE X e (tE rc W (evE z k))) (hn : notSlice i = true) :
    PS X (.AugAssign (.Subscript o i tpos) op.py e pos) (tS rc W (evS (.augsub x y op z) k)) := by
  have ha : ∀ ov iv new, augStore i ov iv new = (do holding [new, ov, iv] (setItem ov iv new); release [new, ov, iv] []; pure .next) := by
    intro ov iv new
    cases i <;> first
      | rfl
      | (simp [notSlice] at hn; done)
  refine (ps_augS ho hi (get_l (rc := rc)) he (p_aug op) (put_l (rc := rc)) ha).imp ?_
  rintro Dn σ H ⟨as, env, h, E, S, p⟩
  rw [evS] at p
  refine ⟨as, env, h, E, S, (p.then E).imp ?_⟩
  intro d1 as1 h1 H1 s1 S1 p1 v1 r1
  have E1 := E.mono S s1
  refine ⟨as1, env, h1, E1, S1, (p1.then E1).imp ?_⟩
  intro d2 as2 h2 H2 s2 S2 p2 v2 r2
  have E2 := E1.mono S1 s2
  cases eg : gidxD h2 d1 d2 with
  | none =>
    rw [eg] at p2
    exact p2.elim
  | some g =>
    rw [eg] at p2
    simp only [ofO_some, R.then_ok] at p2
    refine ⟨as2, h2, d1, d2, g, S2, r1.mono S1 s2, r2, eg, fun v3 r3 => ?_⟩
    refine ⟨as2, env, h2, E2, S2, (p2.then E2).imp ?_⟩
    intro d4 as4 h4 H4 s4 S4 p4 v4 r4
    have E4 := E2.mono S2 s4
    cases eo : op.irun g d4 with
    | none =>
      rw [eo] at p4
      exact p4.elim
    | some d5 =>
      rw [eo] at p4
      simp only [ofO_some, R.then_ok] at p4
      obtain ⟨i, j, m, rfl, rfl, rfl⟩ := irun_ok eo
      simp only [RD] at r3 r4
      subst r3 r4
      refine ⟨i, j, m, rfl, rfl, eo, ?_⟩
      split at p4
      · rename_i h5 e5
        exact ⟨as4, h4, d1, d2, _, h5, S4, (r1.mono S1 s2).mono S2 s4, r2.mono S2 s4, by simp only [RD], e5, fun H' s' S' => p4 as4 H' _ s' S' (E4.mono S4 s')⟩
      · exact p4.elim
/-! ### methods -/
/-- the rule of a method -/
def rM (rc : Rc) (m : Mt) : V → List V → Hp → VK → Prop := fun x xs H Q => ∃ as h d ds, SRel rc as h H ∧ RD rc as H d x ∧ RDs rc as H ds xs ∧ Post rc WF [] as H (fun e as' _ H' => ∀ v, RD rc as' H' e v → Q v H') (m.run d ds h)
theorem append_inv {P : D → List Addr → Hs → Hp → Prop} {d : D} {ds : List D} (p : Post rc W σ as H P (Mt.run .append d ds h)) :
    ∃ a w ys, d = .ref a ∧ ds = [w] ∧ h[a]? = some (.list ys) ∧ ys.length < sizeLine ∧ Post rc W σ as H P (.ok .none (h.set a (.list (ys ++ [w])))) := by
  cases d with
  | ref a =>
    match ds, p with
    | [], p => exact p.elim
    | _ :: _ :: _, p => exact p.elim
    | [w], p =>
      simp only [Mt.run] at p
      split at p
      · rename_i ys hy
        split at p
        · exact ⟨a, w, ys, rfl, rfl, hy, by assumption, p⟩
        · exact p.elim
      · exact p.elim
  | _ => exact p.elim
theorem extend_inv {P : D → List Addr → Hs → Hp → Prop} {d : D} {ds : List D} (p : Post rc W σ as H P (Mt.run .extend d ds h)) :
    ∃ a b ys zs, d = .ref a ∧ ds = [.ref b] ∧ h[a]? = some (.list ys) ∧ h[b]? = some (.list zs) ∧ ys.length + zs.length ≤ sizeLine ∧ Post rc W σ as H P (.ok .none (h.set a (.list (ys ++ zs)))) := by
  cases d with
  | ref a =>
    match ds, p with
    | [], p => exact p.elim
    | x :: _ :: _, p => cases x <;> exact p.elim
    | [x], p =>
      cases x with
      | ref b =>
        simp only [Mt.run] at p
        split at p
        · rename_i ys zs hy hz
          split at p
          · exact ⟨a, b, ys, zs, rfl, rfl, hy, hz, by assumption, p⟩
          · exact p.elim
        · exact p.elim
      | _ => exact p.elim
  | _ => exact p.elim
theorem m_append : MtR X "list.append" (rM rc .append) := by
  rintro pins s σ H x xs v us Q I rx rs ⟨as, h, d, ds, S, rd, rds, p⟩
  obtain ⟨a, w, ys, rfl, rfl, hy, hz, p⟩ := append_inv p
  obtain ⟨q, vs, rfl, ea, hq, rl⟩ := S.list hy rd
  simp only [RDs] at rds
  obtain ⟨u, r, rfl, ru, rfl⟩ := rds
  obtain ⟨s1, S1⟩ := setCell (ds := ys ++ [w]) (vs := vs ++ [u]) S ea hq (rl.app (RDs.cons ru RDs.nil))
  exact mt_append pins s σ H _ _ v us Q I rx rs ⟨q, vs, u, rfl, rfl, hq, by rw [← rl.length]; exact hz, p as _ s1 S1 _ (by simp only [RD])⟩
theorem m_extend : MtR X "list.extend" (rM rc .extend) := by
  rintro pins s σ H x xs v us Q I rx rs ⟨as, h, d, ds, S, rd, rds, p⟩
  obtain ⟨a, b, ys, zs, rfl, rfl, hy, hz, hl, p⟩ := extend_inv p
  obtain ⟨q, vs, rfl, ea, hq, rl⟩ := S.list hy rd
  simp only [RDs] at rds
  obtain ⟨u, r, rfl, ru, rfl⟩ := rds
  obtain ⟨q2, vs2, rfl, ea2, hq2, rl2⟩ := S.list hz ru
  obtain ⟨s1, S1⟩ := setCell (ds := ys ++ zs) (vs := vs ++ vs2) S ea hq (rl.app rl2)
  exact mt_extend pins s σ H _ _ v us Q I rx rs ⟨q, q2, vs, vs2, rfl, rfl, hq, hq2, by rw [← rl.length, ← rl2.length]; exact hl, p as _ s1 S1 _ (by simp only [RD])⟩
/-- what the receiver is -/
def plainRecv : Expr → Bool
  | .Call .. => false
  | _ => true
theorem attrBase {o : Expr} (h : plainRecv o = true) (x : Str) (w : Sem Value) : attributeBase o x X.env w = w := by
  cases o <;> first
    | rfl
    | (simp [plainRecv] at h; done)
theorem mt_noexc (m : Mt) (x : D) (xs : List D) (h : Hs) (e : Ex) (h' : Hs) : m.run x xs h ≠ .exc e h' := by
  unfold Mt.run
  split <;> (repeat' split) <;> simp
theorem few_ok {es : List Expr} {env : PySem.Env} (h : noStar es = true) (hl : es.length < 30) :
    ((backTo pos (starEach es env)).all (fun x => !x.1) && (backToKw pos (keywordEach [] env)).all (fun x => x.1.isSome)
      && decide (es.length + ([] : List Keyword).length + (if ([] : List Keyword).isEmpty then 0 else 1) < 30)) = true := by
  have h1 : (backTo pos (starEach es env)).all (fun x => !x.1) = true := by
    have q := star_plain (pos := pos) (env := env) h
    rw [List.any_eq_false] at q
    rw [List.all_eq_true]
    intro x hx
    have := q x hx
    simpa using this
  rw [h1]
  simp [backToKw, keywordEach, hl]
theorem e_listM {m : Mt} {name : Str} {id : String} {x : E} {xs : Es} {b : Expr} {es : List Expr} (slot : Slot "list" name id) (hty : typeOf (.builtin id) = pure (.type "method_descriptor")) (hm : MtR X id (rM rc m)) (hr : ∀ d h, m.recv d h = true → ∃ n ys, d = .ref n ∧ h[n]? = some (.list ys))
    (ho : PE X o (tE rc W (evE x k))) (ha : PA X (b :: es) (tA rc W (evEs xs k))) (hp : plainRecv o = true) (hs : noStar (b :: es) = true) (hl : (b :: es).length < 30) (hline : (apos.endLine == pos.line) = true) :
    PE X (.Call (.Attribute o name apos) (b :: es) [] pos) (tE rc W (evE (.meth m x xs) k)) := by
  refine (pe_bm PySem.F.plainAttrs_list slot hty hm ho ha (attrBase hp _ _) (few_ok hs hl) hline (star_cons hs) (star_plain (noStar_tail hs))).imp ?_
  rintro σ H Q ⟨as, env, h, E, S, p⟩
  rw [evE] at p
  refine ⟨as, env, h, E, S, p.bind.imp ?_⟩
  intro d as1 h1 H1 s1 S1 p1 v r
  split at p1
  · rename_i hq
    obtain ⟨n, ys, rfl, hy⟩ := hr d h1 hq
    obtain ⟨q, vs, rfl, ea, hq, rl⟩ := S1.list hy r
    refine ⟨.inl ⟨rfl, _, .of hq⟩, as1, env, h1, E.mono S s1, S1, p1.bind.imp ?_⟩
    intro ds as2 h2 H2 s2 S2 p2 us rs
    exact ⟨as2, h2, _, ds, S2, r.mono S1 s2, rs, p2.lift (mt_noexc _ _ _ _)⟩
  · exact p1.elim
theorem recv_l {m : Mt} (hm : m = .append ∨ m = .extend) (d : D) (h : Hs) (e : m.recv d h = true) : ∃ n ys, d = .ref n ∧ h[n]? = some (.list ys) := by
  cases d with
  | ref a =>
    cases hh : h[a]? with
    | none => rcases hm with rfl | rfl <;> simp [Mt.recv, hh] at e
    | some o => cases o with
      | list ys => exact ⟨a, ys, rfl, hh⟩
      | _ => rcases hm with rfl | rfl <;> simp [Mt.recv, hh] at e
  | _ => rcases hm with rfl | rfl <;> simp [Mt.recv] at e
theorem e_append {x : E} {xs : Es} {b : Expr} {es : List Expr} (ho : PE X o (tE rc W (evE x k))) (ha : PA X (b :: es) (tA rc W (evEs xs k))) (hp : plainRecv o = true) (hs : noStar (b :: es) = true) (hl : (b :: es).length < 30) (hline : (apos.endLine == pos.line) = true) :
    PE X (.Call (.Attribute o "append" apos) (b :: es) [] pos) (tE rc W (evE (.meth .append x xs) k)) :=
  e_listM PySem.F.slot_list_append PySem.F.type_list_append m_append (recv_l (.inl rfl)) ho ha hp hs hl hline
theorem e_extend {x : E} {xs : Es} {b : Expr} {es : List Expr} (ho : PE X o (tE rc W (evE x k))) (ha : PA X (b :: es) (tA rc W (evEs xs k))) (hp : plainRecv o = true) (hs : noStar (b :: es) = true) (hl : (b :: es).length < 30) (hline : (apos.endLine == pos.line) = true) :
    PE X (.Call (.Attribute o "extend" apos) (b :: es) [] pos) (tE rc W (evE (.meth .extend x xs) k)) :=
  e_listM PySem.F.slot_list_extend PySem.F.type_list_extend m_extend (recv_l (.inr rfl)) ho ha hp hs hl hline
end
end MI
end
section
/-! MN: exceptions, pairs of names, a name for a comprehension. -/
namespace MI
open PySem PySem.Spec PyProof.Rows L2
section
variable {X : Cx} {rc : Rc} {W : WX} {Dn : Ends} {σ : Sg} {as as1 : List Addr} {H H1 : Hp} {env : Env} {h : Hs} {k : Ct} {pos tpos apos : Pos} {o i e a b c : Expr}
/-! ### raise -/
/-- an exception's class without a method of its own for making: what is known where X runs -/
structure Xcls (K : PySem.W.Frag) (mg : Str → Option Value) (rc : Rc) (x : Str) (c : Nat) : Prop where
  lt : c < rc.nx
  mg : mg x = some (.ref (rc.ca c))
  keep : PySem.W.keepIn K (.ref (rc.ca c)) = true
  sub : PySem.W.subIn K (.ref (rc.ca c)) (.type "BaseException") = some true
  ty : PySem.W.typeIn K (.ref (rc.ca c)) = some (.type "type")
  db : (x == ("__debug__" : Str)) = false
  base : ∃ (B newId initId : String) (bmB : List Value), ExcBaseFacts B newId initId bmB ∧ PySem.W.excIn K (rc.ca c) bmB newId = true
theorem pmk_own0 {x : Str} {n : Nat} {p : Pos} (F : Xcls X.K X.mg rc x n) (hg : Gl X x) : PMk X (.Call (.Name x p) [] [] pos) (fun _ H Q => Q (.ref (rc.ca n)) none H) := by
  intro pins s σ H Q I h
  obtain ⟨B, newId, initId, bmB, FB, q⟩ := F.base
  refine wpAny_Call_Name_kw (ld_glob I hg F.mg ?_ F.db)
  refine PySem.W.callWith_K0 I.kIn F.keep ?_
  show wpAny _ _ (call (.ref (rc.ca n)) []) _ _ _
  obtain ⟨bm, N, nm, qn, bs, hdct, sn, sub, ab, col, dd, k0, k1, k2, k3, k5, mN, hC, hN, hni, T⟩ := exc_obj I.kIn q
  refine wpAny_call_exc_subT FB T hC hN hni (fun h' e hm => ?_) (Nat.zero_le _)
  exact mk_of I hm (raises_own F.sub F.ty) h (I.hok.gone hm.new)
theorem s_raise0 {x : Str} {n : Nat} {p : Pos} (hc : X.calm = true) (tk : Takes X W) (F : Xcls X.K X.mg rc x n) (hg : Gl X x) : PS X (.Raise (some (.Call (.Name x p) [] [] apos)) none pos) (tS rc W (evS (.raise n .nil) k)) := by
  refine (ps_raise hc tk (pmk_own0 F hg)).imp ?_
  rintro Dn σ H ⟨as, env, h, E, S, p⟩
  rw [evS] at p
  exact p as H σ _ none .refl S E ⟨rfl, F.lt, rfl⟩
/-! ### try -/
/-- the clauses' readings -/
def hdl (rc : Rc) (k : Ct) : Hd → List (Value × (Addr → Value → Option Addr → TS))
  | .nil => []
  | .cons c _ b r => (.ref (rc.ca c), fun _ _ _ => tS rc WF (evSs b k)) :: hdl rc k r
def hdOk (rc : Rc) : Hd → Prop
  | .nil => True
  | .cons c v _ r => c < rc.nx ∧ v = none ∧ hdOk rc r
theorem PostS.noX {r : RS} (p : PostS rc W Dn as H r.noX) : PostS rc WF Dn as H r := by
  cases r with
  | exc x e h => exact p.elim
  | next e h => exact p
  | brk e h => exact p
  | cont e h => exact p
  | ret d h => exact p
  | stuck => exact p
theorem hdl_many (hex : ∀ a b, a < rc.nx → b < rc.nx → PySem.W.exmOne X.K (.ref (rc.ca a)) (.ref (rc.ca b)) = some (k.sub a b)) {x : Ex} {cls : Value} {dd : Option Addr} (S : SRel rc as h H) (E : ERel rc as H env σ) (xr : XRel rc as H x cls dd) :
    ∀ hd : Hd, hdOk rc hd → PostS rc W Dn as H (evH hd x k env h) → wMany X.K W Dn (hdl rc k hd) cls dd σ H
  | .nil, _, p => by
    rw [evH] at p
    exact p as H σ cls dd .refl S E xr
  | .cons c v b r, hl, p => by
    obtain ⟨h1, rfl, h2⟩ := hl
    simp only [evH] at p
    have xr' := xr
    obtain ⟨rfl, hx, _⟩ := xr'
    refine ⟨_, hex _ _ hx h1, fun eb a ha => ?_, fun eb => ?_⟩
    · rw [if_pos eb] at p
      exact ⟨as, env, h, E, S, PostS.noX p⟩
    · rw [if_neg (by rw [eb]; exact Bool.false_ne_true)] at p
      exact hdl_many hex S E xr r h2 p
theorem s_try {body : List Stmt} {h₀ : ExceptHandler} {hds : List ExceptHandler} {b : Ss} {hd : Hd} (hex : ∀ a b, a < rc.nx → b < rc.nx → PySem.W.exmOne X.K (.ref (rc.ca a)) (.ref (rc.ca b)) = some (k.sub a b)) (ho : hdOk rc hd)
    (hs : X.stack = X.env :: X.outer) (hf : X.env.frame = some X.env.locals) (tk : Takes X W)
    (hb : ∀ (W : WX) (pn : List (Addr × Obj)) (xe : Value → Shared → Prop), Takes (X.tr pn xe) W → PassesOwn (model X.prog X.w) X.A X.env xe → PSs (X.tr pn xe) body (tS rc W (evSs b k)))
    (hh : HdsOk X (h₀ :: hds) (hdl rc k hd)) : PS X (.Try body (h₀ :: hds) [] [] pos) (tS rc W (evS (.try_ b hd) k)) := by
  refine (ps_try_many (tb := fun W => tS rc W (evSs b k)) hs hf tk hb hh).imp ?_
  rintro Dn σ H ⟨as, env, h, E, S, p⟩
  rw [evS] at p
  refine ⟨as, env, h, E, S, ?_⟩
  revert p
  cases evSs b k env h with
  | exc x e1 h1 =>
    intro p as' H' σ' cls dd s1 S1 E1 xr
    exact hdl_many hex S1 E1 xr hd ho (PostS.from s1 p)
  | next e h => exact id
  | brk e h => exact id
  | cont e h => exact id
  | ret d h => exact id
  | stuck => exact id
theorem hds_nil : HdsOk X [] (hdl rc k .nil) := .nil
theorem hds_cons {x : Str} {n : Nat} {b₀ : Stmt} {suite : List Stmt} {np pos' : Pos} {hds : List ExceptHandler} {b : Ss} {r : Hd} (hc : Names X x (.ref (rc.ca n)))
    (hsu : ∀ (a : Addr) (oe : Obj) (pn : List (Addr × Obj)), PSs (X.suite a ((a, oe) :: pn)) (b₀ :: suite) (tS rc WF (evSs b k))) (hr : HdsOk X hds (hdl rc k r)) : HdsOk X (.ExceptHandler (some (.Name x np)) none (b₀ :: suite) pos' :: hds) (hdl rc k (.cons n none b r)) :=
  .cons hc (fun a oe _ _ pn _ _ => hsu a oe pn) hr
/-! ### a, b = x, y -/
/-- values of a pair just read, what was laid meanwhile may be forgotten -/
theorem gcA {f : Env → Hs → R (List D)} {P : D → List Addr → Hs → Hp → Prop} (E : ERel rc as H env σ) (S : SRel rc as h H) (p : Post rc W σ as H P (gc h ((f env h).bind fun xs h1 => .ok (.tup xs) h1))) :
    tA rc W f σ H fun vs H' => ∃ ds as' h', Stp as H as' H' ∧ SRel rc as' h' H' ∧ RDs rc as' H' ds vs ∧ P (.tup ds) as' h' H' := by
  refine ⟨as, env, h, E, S, ?_⟩
  cases e : f env h with
  | ok ds h' =>
    rw [e] at p
    intro as' H' s1 S1 vs rs
    simp only [R.bind_ok, MI.gc] at p
    split at p
    · rename_i hz
      simp only [Bool.and_eq_true] at hz
      obtain ⟨z, rfl⟩ := Hs.pre_ok hz.2
      obtain ⟨s2, S2⟩ := S.cut s1 S1
      refine ⟨ds, as, h, s2, S2, ?_, p as H' s2 S2⟩
      obtain ⟨y, rfl⟩ := s1.pre
      exact RDs.flat (by simpa [D.flat] using hz.1) rs
    · exact ⟨ds, as', h', s1, S1, rs, p as' H' s1 S1⟩
  | exc x h' =>
    rw [e] at p
    exact p
  | stuck =>
    rw [e] at p
    exact p
theorem s_par2 {i j : Nat} {x y : Str} {xs : Es} {px py pt : Pos} {kt k2 : Nat} {pt2 : Pos} (hc : X.calm = true) (hN : X.N.Nodup) (hi : X.N[i]? = some x) (hj : X.N[j]? = some y) (hij : i ≠ j)
    (hx : X.env.scope.names.lookup x = some .local) (hy : X.env.scope.names.lookup y = some .local) (ha : PA X [a, b] (tA rc W (evEs xs k)))
    (hw : swappedStores [.Tuple [.Name x px, .Name y py] kt pt] (.Tuple [a, b] k2 pt2) X.env = pure (some [x, y])) :
    PS X (.Assign [.Tuple [.Name x px, .Name y py] kt pt] (.Tuple [a, b] k2 pt2) pos) (tS rc W (evS (.assign (.t [.v i, .v j]) (.tup xs)) k)) := by
  refine (ps_par hc hN hi hj hij hx hy ha hw).imp ?_
  rintro Dn σ H ⟨as, env, h, E, S, p⟩
  rw [evS, evE] at p
  obtain ⟨as0, env0, h0, E0, S0, p0⟩ := gcA E S (p.then E)
  refine ⟨as0, env0, h0, E0, S0, p0.imp ?_⟩
  intro _ _ _ H' _ _ q vs rs
  obtain ⟨ds, as', h', s', S', rs, q⟩ := q vs rs
  match ds, q with
  | [], q => simp only [Tg.bind, unpk, Tg.binds] at q; exact q.elim
  | [_], q => simp only [Tg.bind, unpk, Tg.binds] at q; exact q.elim
  | _ :: _ :: _ :: _, q => simp only [Tg.bind, unpk, Tg.binds] at q; exact q.elim
  | [d, e], q =>
    simp only [Tg.bind, unpk, Tg.binds] at q
    simp only [RDs] at rs
    obtain ⟨v, _, rfl, r1, w, _, rfl, r2, rfl⟩ := rs
    exact ⟨v, w, rfl, q.nx S' (((E.mono S s').set r1).set r2)⟩
theorem s_par3 {i j l : Nat} {x y z : Str} {xs : Es} {px py pz pt : Pos} {kt k2 : Nat} {pt2 : Pos} (hc : X.calm = true) (hN : X.N.Nodup) (hi : X.N[i]? = some x) (hj : X.N[j]? = some y) (hl : X.N[l]? = some z) (hij : i ≠ j) (hil : i ≠ l) (hjl : j ≠ l)
    (hx : X.env.scope.names.lookup x = some .local) (hy : X.env.scope.names.lookup y = some .local) (hz : X.env.scope.names.lookup z = some .local) (ha : PA X [a, b, c] (tA rc W (evEs xs k)))
    (hw : swappedStores [.Tuple [.Name x px, .Name y py, .Name z pz] kt pt] (.Tuple [a, b, c] k2 pt2) X.env = pure (some [x, y, z])) :
    PS X (.Assign [.Tuple [.Name x px, .Name y py, .Name z pz] kt pt] (.Tuple [a, b, c] k2 pt2) pos) (tS rc W (evS (.assign (.t [.v i, .v j, .v l]) (.tup xs)) k)) := by
  refine (ps_par3 hc hN hi hj hl hij hil hjl hx hy hz ha hw).imp ?_
  rintro Dn σ H ⟨as, env, h, E, S, p⟩
  rw [evS, evE] at p
  obtain ⟨as0, env0, h0, E0, S0, p0⟩ := gcA E S (p.then E)
  refine ⟨as0, env0, h0, E0, S0, p0.imp ?_⟩
  intro _ _ _ H' _ _ q vs rs
  obtain ⟨ds, as', h', s', S', rs, q⟩ := q vs rs
  match ds, q with
  | [], q => simp only [Tg.bind, unpk, Tg.binds] at q; exact q.elim
  | [_], q => simp only [Tg.bind, unpk, Tg.binds] at q; exact q.elim
  | [_, _], q => simp only [Tg.bind, unpk, Tg.binds] at q; exact q.elim
  | _ :: _ :: _ :: _ :: _, q => simp only [Tg.bind, unpk, Tg.binds] at q; exact q.elim
  | [d, e, g], q =>
    simp only [Tg.bind, unpk, Tg.binds] at q
    simp only [RDs] at rs
    obtain ⟨v, _, rfl, r1, w, _, rfl, r2, u, _, rfl, r3, rfl⟩ := rs
    exact ⟨v, w, u, rfl, q.nx S' ((((E.mono S s').set r1).set r2).set r3)⟩
/-! ### name = [..] on one line -/
theorem s_setLc {i : Nat} {y : Str} {py : Pos} {elt tg iter : Expr} {ifs : List Expr} {scope : Scope} {own : List (Str × Nat)} {spos : Pos} {e : E} {t : Tg} {g : It} {cs : Es} (hc : X.calm = true) (hN : X.N.Nodup) (hy : X.N[i]? = some y) (hyl : X.env.scope.names.lookup y = some .local)
    (hsw : swapsWith (.ListComp elt [⟨tg, iter, ifs, 0⟩] scope pos) (some (.Name y py)) spos.line X.env = pure true) (hi : PI X tg iter (tI rc W (evI g k))) (hown : own.map (·.2) = t.slots) (ok : BlkOk X.N X.env.scope scope own)
    (hg : ∀ (s : Shared) (H : Hp) (C : Addr) (cl : List (Str × Addr)) (fp : List Addr), PG (X.blk s H scope (compEnvC scope cl C X.env) fp) tg (tG rc t)) (ht : ∀ (s : Shared) (H : Hp) (C : Addr) (cl : List (Str × Addr)) (fp : List Addr), PTs (X.blk s H scope (compEnvC scope cl C X.env) fp) ifs (tCs rc WF cs k))
    (he : ∀ (s : Shared) (H : Hp) (C : Addr) (cl : List (Str × Addr)) (fp : List Addr), PE (X.blk s H scope (compEnvC scope cl C X.env) fp) elt (tE rc WF (evE e k))) (hs : ∀ x, foldedSetIterable iter X.env x = pure x) :
    PS X (.Assign [.Name y py] (.ListComp elt [⟨tg, iter, ifs, 0⟩] scope pos) spos) (tS rc W (evS (.assign (.v i) (.new (.comp e t g cs))) k)) := by
  refine (ps_setLc hc hN hy hyl hsw hi ok hg ht he hs).imp ?_
  rintro Dn σ H ⟨as, env, h, E, S, p⟩
  rw [evS, evE] at p
  show tLc _ _ _ _ _ σ H fun x H1 => Dn.nx (σ.set i (some x)) H1
  rw [hown]
  refine i_comp ?_
  cases e1 : evL (.comp e t g cs) k env h with
  | ok ds h' =>
    rw [e1] at p
    refine ⟨as, env, h, E, S, ?_⟩
    rw [e1]
    intro as1 H1 s1 S1 q vs eq nq h0 rs
    obtain ⟨s2, S2, r2⟩ := adopt s1 S1 eq nq h0 rs
    simp only [R.bind_ok, newC, MI.gc, D.flat, Bool.false_and, Bool.false_eq_true, if_false, R.then_ok, Tg.bind] at p
    exact p _ _ _ s2 S2 ((E.mono S s2).set r2)
  | exc x h' =>
    rw [e1] at p
    refine ⟨as, env, h, E, S, ?_⟩
    rw [e1]
    exact fun as' H' cls dd s S' xr => p as' H' σ cls dd s S' (E.mono S s) xr
  | stuck =>
    rw [e1] at p
    exact p.elim
end
end MI
end
section
/-! MO: calls of defs. -/
namespace MI
open PySem PySem.Spec PyProof.Rows L2
/-- a def's promise where the caller's guards are told -/
structure FnG (P : Program) (w : World) (K : PySem.W.Frag) (mg : Str → Option Value) (base : Heap) (n : Nat) (f : Addr) (fd : FuncData) (ps : List Str) (sp : Sp) : Prop where
  len : ∀ vs H Q E, sp vs H Q E → vs.length = ps.length
  run : ∀ (A : Around) (out : List PySem.Env) (s : Shared) (H : Hp) (args : Args) (us : List Value) (vs : List V) (Q : VK) (E : XK),
    Room n A → A.guards = some [] → Env0 P w K mg base A out s H → BindsTo s fd args (ps.zip us) → Vals vs us → sp vs H Q E → codeAny (model P w) A (.call (.ref f) args) (CR (L2.CX P w) out P w H s Q E) s
/-- the context of a def's body, exceptions let out as told -/
abbrev bodyCx (P : Program) (w : World) (K : PySem.W.Frag) (mg : Str → Option Value) (base : Heap) (N : List Str) (q : Str) (sc : Scope) (f : Addr) (cd : Value) (A : Around) (out : List PySem.Env) (s : Shared) (H : Hp) (E : XK) : Cx :=
  cxOf (L2.CX P w) P w K mg base N q sc f cd A out s H E
section
variable {P : Program} {w : World} {K : PySem.W.Frag} {mg : Str → Option Value} {base : Heap} {n : Nat} {f : Addr} {fd : FuncData} {ps N : List Str} {sp : Sp} {x q : Str} {params : Arguments} {body : List Stmt} {sc : Scope} {dvs : List V} {kws : List (Str × V)}
theorem FnG.mono {m : Nat} (F : FnG P w K mg base m f fd ps sp) (hm : m ≤ n) : FnG P w K mg base n f fd ps sp :=
  ⟨F.len, fun A out s H args us vs Q E hr => F.run A out s H args us vs Q E (hr.mono hm)⟩
/-- a def by its body -/
theorem fnG_of (F : FunD K x q params body sc dvs kws f fd) (S : FnScope N ps sc) (len : ∀ vs H Q E, sp vs H Q E → vs.length = ps.length)
    (hb : ∀ (cd : Value) (A : Around) (out : List PySem.Env) (s : Shared) (H : Hp) (vs : List V) (Q : VK) (E : XK), fd.code = cd → Room n (A.deeper (envOfC q sc s.heap.objs.size f cd)) → A.guards = some [] → sp vs H Q E →
      ∃ t, PSs (bodyCx P w K mg base N q sc f cd A out s H E) body t ∧ t { nx := fun _ H' => Q .non H', rt := Q } (L2.start N vs) H) : FnG P w K mg base (n + 1) f fd ps sp := by
  obtain ⟨oc, od, dV, kV, doc, pm, an, cd, ct, osl, rfl, lk, hcd, _, _⟩ := F.ex
  refine ⟨len, fun A out s H args us vs Q E hr hg e0 bt rv hsp => ?_⟩
  have lv := len _ _ _ _ hsp
  have KX : K.In s.heap := e0.mod.kin.keeps fun b o e => (e0.bs b o e).1
  have LM : s.heap.NoLimit := e0.mod.nolimit.keeps fun b o e => (e0.bs b o e).1
  refine codeAny_call_function hr.depth (KX _ _ lk) rfl S.co S.gen rfl (PySem.W.codeRec_of KX hcd) (bt _ _ _ _ ?_)
  have kinds : ∀ y ∈ ps.zip us, sc.names.lookup y.1 = some .local ∨ (sc.names.lookup y.1 = some .cell ∧ ((cellsFrom (s.heap.objs.size + 1) sc.names []).lookup y.1).isSome = true) := by
    rintro ⟨z, v⟩ hy
    exact (S.par z (List.of_mem_zip hy).1).imp id fun k => ⟨k, PySem.W.cellsFrom_some _ _ _ (.inl k)⟩
  refine wpAny_newFunctionEnv_cells S.kind kinds fun env he s1 y => ?_
  subst he
  refine ⟨LM.keeps y.toInCall.keep, codeAny_func ?_⟩
  obtain ⟨t, ht, hq⟩ := hb cd A out s H vs Q E rfl (hr.deeper _) hg hsp
  have I0 : Inv (bodyCx P w K mg base N q sc f cd A out s H E) [] (L2.start N vs) H s1 := inv_start S hr.hd e0 lv rv y
  have done : ∀ {σ' : Sg} {H' : Hp} {v : V} {u : Value} {s' : Shared}, Inv (bodyCx P w K mg base N q sc f cd A out s H E) [] σ' H' s' → RelV v u → Q v H' → CE out P w H s Q u s' :=
    fun J r z => ⟨_, _, J.os, J.bare, J.base, J.hok, r, z⟩
  refine wpAny_mono (ht.run [] s1 _ H _ I0 hq) (fun fl s' z => ?_) (fun _ _ z => z)
  match fl, z with
  | .ret u, ⟨v, σ', H', J, r, z⟩ => exact done J r z
  | .next, ⟨σ', H', J, z⟩ => exact done (v := .non) (u := .none) J rfl z
  | .brk, ⟨_, _, _, z⟩ => exact z.elim
  | .cont, ⟨_, _, _, z⟩ => exact z.elim
end
/-- a def that runs as f says -/
def spC (rc : Rc) (np : Nat) (f : List D → Hs → R D) : Sp := fun vs H Q E =>
  ∃ as h ds, SRel rc as h H ∧ RDs rc as H ds vs ∧ ds.length = np ∧ Post rc (fun cls dd _ H' => E cls dd H') [] as H (fun d as' _ H' => ∀ v, RD rc as' H' d v → Q v H') (f ds h)
/-- what is known of a def where X runs -/
structure FnK (X : Cx) (rc : Rc) (n : Nat) (k np : Nat) (f : List D → Hs → R D) : Prop where
  keep : PySem.W.keepIn X.K (.ref (rc.fa k)) = true
  ok : ∃ fd ps, FnG X.prog X.w X.K X.mg X.base n (rc.fa k) fd ps (spC rc np f) ∧ Binds X.K fd ps [] ∧ ps.length = np
section
variable {X : Cx} {rc : Rc} {W : WX} {σ : Sg} {as as1 : List Addr} {H H1 : Hp} {env : Env} {h : Hs} {k : Ct} {pos p : Pos} {e a : Expr} {es : List Expr} {n np : Nat} {x : Str}
/-- the callee runs -/
theorem run_call {f : List D → Hs → R D} {m : Nat} {pins : List (Addr × Obj)} {s : Shared} {us : List Value} {vs : List V} {ds : List D} {Q : VK} (tk : Takes X W) (hr : Room n X.A) (hg : X.A.guards = some []) (F : FnK X rc n m np f) (I : Inv X pins σ H s) (S : SRel rc as h H) (rv : Vals vs us) (rs : RDs rc as H ds vs) (hl : ds.length = np)
    (q : Post rc W σ as H (fun d as' _ H' => ∀ v, RD rc as' H' d v → Q v H') (f ds h)) : wpAny (model X.prog X.w) X.A (call (.ref (rc.fa m)) us) (EP X pins σ Q) X.xe s := by
  obtain ⟨fd, ps, G, B, lp⟩ := F.ok
  have lu : us.length = ps.length := by rw [← rv.length, ← rs.length, hl, lp]
  have bt := B s us I.kIn (by rw [List.append_nil]; exact lu)
  rw [List.append_nil] at bt
  have sp : spC rc np f vs H Q (WE W σ) := by
    refine ⟨as, h, ds, S, rs, hl, ?_⟩
    revert q
    cases f ds h with
    | ok d h' => exact id
    | exc x h' => exact id
    | stuck => exact id
  refine wpAny_call (codeAny_mono (G.run X.A X.stack s H ⟨us, []⟩ us vs Q (WE W σ) hr hg I.env0 bt rv sp) fun r s' z => ?_)
  match r, z with
  | .error u, z => exact passAt tk σ pins H s u s' I z
  | .ok (.ret u), z => exact I.after z
  | .ok .next, z => exact z.elim
  | .ok .brk, z => exact z.elim
  | .ok .cont, z => exact z.elim
theorem evEs_len : ∀ {xs : Es} {c : Ct} {env : Env} {h h' : Hs} {ds : List D}, evEs xs c env h = .ok ds h' → ds.length = xs.len
  | .nil, c, env, h, h', ds, e => by
    rw [evEs] at e
    cases e
    rfl
  | .cons x xs, c, env, h, h', ds, e => by
    rw [evEs] at e
    cases e1 : evE x c env h with
    | ok d h1 =>
      rw [e1, R.bind_ok] at e
      cases e2 : evEs xs c env h1 with
      | ok d2 h2 =>
        rw [e2, R.bind_ok] at e
        cases e
        simp [Es.len, evEs_len e2]
      | exc y h2 => rw [e2] at e; cases e
      | stuck => rw [e2] at e; cases e
    | exc y h1 => rw [e1] at e; cases e
    | stuck => rw [e1] at e; cases e
/-- the arguments, then the callee -/
theorem e_callWith {xs : Es} {f : List D → Hs → R D} {m : Nat} (tk : Takes X W) (hr : Room n X.A) (hg : X.A.guards = some []) (F : FnK X rc n m np f) (ha : PA X (e :: es) (tA rc W (evEs xs k))) (hs : noStar (e :: es) = true)
    {pins : List (Addr × Obj)} {s : Shared} {Q : VK} (I : Inv X pins σ H s) (E : ERel rc as H env σ) (S : SRel rc as h H)
    (q : Post rc W σ as H (fun d as' _ H' => ∀ v, RD rc as' H' d v → Q v H') ((evEs xs k env h).bind fun ds h1 => f ds h1)) (hl : xs.len = np) :
    wpAny (model X.prog X.w) X.A (callWith pos (.ref (rc.fa m)) [] (backTo pos (starEach (e :: es) X.env)) []) (EP X pins σ Q) X.xe s := by
  have q' : tA rc W (evEs xs k) σ H fun vs H1 => ∃ as1 h1 ds, SRel rc as1 h1 H1 ∧ RDs rc as1 H1 ds vs ∧ ds.length = np ∧ Post rc W σ as1 H1 (fun d as' _ H' => ∀ v, RD rc as' H' d v → Q v H') (f ds h1) := by
    refine ⟨as, env, h, E, S, ?_⟩
    cases e : evEs xs k env h with
    | ok ds h1 =>
      rw [e] at q
      exact fun as1 H1 s1 S1 vs rs => ⟨as1, h1, ds, S1, rs, by rw [evEs_len e, hl], Post.from s1 q⟩
    | exc y h1 => rw [e] at q; exact q
    | stuck => rw [e] at q; exact q
  refine PySem.W.callWith_K (h₀ := X.base) I.ok.mod.kin F.keep (thn (ha.run pos pins s σ H _ I q') fun us s1 z => ?_) (star_cons hs) (star_plain (noStar_tail hs))
  obtain ⟨vs, H1, I1, rv, as1, h1, ds, S1, rs, l1, p1⟩ := z
  exact ⟨I1.kIn, run_call tk hr hg F I1 S1 rv rs l1 p1⟩
theorem e_callWith0 {f : List D → Hs → R D} {m : Nat} (tk : Takes X W) (hr : Room n X.A) (hg : X.A.guards = some []) (F : FnK X rc n m np f)
    {pins : List (Addr × Obj)} {s : Shared} {Q : VK} (I : Inv X pins σ H s) (S : SRel rc as h H)
    (q : Post rc W σ as H (fun d as' _ H' => ∀ v, RD rc as' H' d v → Q v H') (f [] h)) (hl : 0 = np) :
    wpAny (model X.prog X.w) X.A (callWith pos (.ref (rc.fa m)) [] (backTo pos (starEach [] X.env)) []) (EP X pins σ Q) X.xe s :=
  PySem.W.callWith_K0 I.kIn F.keep (run_call tk hr hg F I S .nil RDs.nil hl q)
/-- f(..), f a def of the module -/
theorem e_call {xs : Es} {m : Nat} (tk : Takes X W) (hr : Room n X.A) (hg : X.A.guards = some []) (F : FnK X rc n m np (k.call k.off m)) (gl : Gl X x) (gm : X.mg x = some (.ref (rc.fa m))) (db : (x == ("__debug__" : Str)) = false) (ha : PA X es (tA rc W (evEs xs k))) (hs : noStar es = true) (hl : xs.len = np) (he : es.length = xs.len) :
    PE X (.Call (.Name x p) es [] pos) (tE rc W (evE (.call m xs) k)) := by
  refine ⟨fun pins s σ H Q I t => ?_⟩
  obtain ⟨as, env, h, E, S, q⟩ := t
  rw [evE] at q
  refine wpAny_Call_Name_kw (ld_glob I gl gm ?_ db)
  cases es with
  | nil =>
    cases xs with
    | nil =>
      rw [evEs] at q
      exact e_callWith0 tk hr hg F I S q hl
    | cons x xs => cases he
  | cons e es => exact e_callWith tk hr hg F ha hs I E S q hl
/-- f(..), f a local name that holds a def -/
theorem e_callv {i : Nat} {xs : Es} (tk : Takes X W) (hr : Room n X.A) (hg : X.A.guards = some []) (F : ∀ m ds h, k.call k.off m ds h ≠ .stuck → FnK X rc n m ds.length (k.call k.off m)) (hk : ∀ m, m < rc.nf → PySem.W.keepIn X.K (.ref (rc.fa m)) = true) (hN : X.N[i]? = some x) (hv : Vis X.env.scope x) (db : (x == ("__debug__" : Str)) = false) (cd : (x == ("__classdict__" : Str)) = false)
    (ha : PA X (e :: es) (tA rc W (evEs xs k))) (hs : noStar (e :: es) = true) : PE X (.Call (.Name x p) (e :: es) [] pos) (tE rc W (evE (.callv i xs) k)) := by
  refine ⟨fun pins s σ H Q I t => ?_⟩
  obtain ⟨as, env, h, E, S, q⟩ := t
  rw [evE] at q
  split at q
  · rename_i m hm
    obtain ⟨v, ev, rv⟩ := E.2 i _ hm
    simp only [RD] at rv
    obtain ⟨rfl, hm2⟩ := rv
    refine wpAny_Call_Name_kw (thn ((pe_var (pos := p) hN hv db cd).run pins s σ H (fun v H1 => v = .ref (rc.fa m) ∧ H1 = H) I ⟨_, ev, rfl, rfl⟩) fun u s1 z => ?_)
    obtain ⟨v, H1, I1, r1, e1, e2⟩ := z
    subst e1
    rw [e2] at I1
    cases r1
    cases ee : evEs xs k env h with
    | ok ds h1 =>
      by_cases hne : k.call k.off m ds h1 = .stuck
      · rw [ee, R.bind_ok, hne] at q
        exact q.elim
      · have l1 := evEs_len ee
        refine e_callWith tk hr hg (l1 ▸ F m ds h1 hne) ha hs I1 E S q rfl
    | exc y h1 =>
      rw [ee] at q
      have q' : tA rc W (evEs xs k) σ H fun _ _ => False := by
        refine ⟨as, env, h, E, S, ?_⟩
        rw [ee]
        exact q
      refine PySem.W.callWith_K (h₀ := X.base) I.ok.mod.kin (hk m hm2) (thn (ha.run pos pins _ σ H _ I1 q') fun us s1 z => ?_) (star_cons hs) (star_plain (noStar_tail hs))
      obtain ⟨_, _, _, _, z⟩ := z
      exact z.elim
    | stuck => rw [ee] at q; exact q.elim
  · exact q.elim
end
end MI
end
section
/-! MP: written values, names of the module, isinstance. -/
namespace MI
open PySem PySem.Spec PyProof.Rows L2
section
variable {X : Cx} {rc : Rc} {W : WX} {σ : Sg} {as as1 : List Addr} {H H1 : Hp} {env : Env} {h : Hs} {k : Ct} {pos p apos : Pos} {e a b : Expr} {es : List Expr} {n np : Nat} {x : Str}
/-- a value that is told whatever the state is -/
def Const_ (rc : Rc) (d : D) (v : V) : Prop := ∀ as H, RD rc as H d v
theorem tE_const {d : D} {v : V} {x : E} (hx : ∀ c env h, evE x c env h = .ok d h) (r : Const_ rc d v) {Q : VK} (t : tE rc W (evE x k) σ H Q) : Q v H := by
  obtain ⟨as, env, h, E, S, q⟩ := t
  rw [hx] at q
  exact q.ok S v (r as H)
theorem e_int {i : Int} {j : Nat} : PE X (.Constant (.int i) j pos) (tE rc W (evE (.lit (.int i)) k)) :=
  pe_int.imp fun σ H Q t => tE_const (fun c env h => by rw [evE]) (fun as H => by simp only [RD]) t
theorem e_str {i : Str} {j : Nat} : PE X (.Constant (.str i) j pos) (tE rc W (evE (.lit (.str i)) k)) :=
  pe_str.imp fun σ H Q t => tE_const (fun c env h => by rw [evE]) (fun as H => by simp only [RD]) t
theorem e_bool {i : Bool} {j : Nat} : PE X (.Constant (.bool i) j pos) (tE rc W (evE (.lit (.bool i)) k)) :=
  pe_bl.imp fun σ H Q t => tE_const (fun c env h => by rw [evE]) (fun as H => by simp only [RD]) t
theorem e_none {j : Nat} : PE X (.Constant .none j pos) (tE rc W (evE (.lit .none) k)) :=
  pe_non.imp fun σ H Q t => tE_const (fun c env h => by rw [evE]) (fun as H => by simp only [RD]) t
theorem e_glob {m : Nat} {d : D} {v : V} {u : Value} (hc : k.consts[m]? = some d) (gl : Gl X x) (gm : X.mg x = some u) (rv : RelV v u) (r : Const_ rc d v) (db : (x == ("__debug__" : Str)) = false) : PE X (.Name x pos) (tE rc W (evE (.glob m) k)) :=
  (pe_glob gl gm rv db).imp fun σ H Q t => by
    obtain ⟨as, env, h, E, S, q⟩ := t
    rw [evE, hc] at q
    exact q.ok S v (r as H)
theorem e_fnv {m : Nat} (hm : m < rc.nf) (gl : Gl X x) (gm : X.mg x = some (.ref (rc.fa m))) (db : (x == ("__debug__" : Str)) = false) : PE X (.Name x pos) (tE rc W (evE (.fnv m) k)) :=
  (pe_glob (v := .ref (rc.fa m)) gl gm rfl db).imp fun σ H Q t => tE_const (fun c env h => by rw [evE]) (fun as H => by unfold RD; exact ⟨rfl, hm⟩) t
theorem e_neg {x : E} (ha : PE X a (tE rc W (evE x k))) : PE X (.UnaryOp .USub a pos) (tE rc W (evE (.neg x) k)) := by
  refine (pe_un un_neg ha).imp ?_
  rintro σ H Q ⟨as, env, h, E, S, q⟩
  rw [evE] at q
  refine ⟨as, env, h, E, S, q.bind.imp ?_⟩
  intro d as1 h1 H1 s1 S1 q1 v r
  cases d with
  | int i =>
    simp only [RD] at r
    subst r
    exact ⟨i, rfl, q1.ok S1 _ (by simp only [RD])⟩
  | _ => exact q1.elim
/-! ### isinstance -/
def Ty.nm : Ty → String
  | .int => "int" | .bool => "bool" | .str => "str" | .tuple => "tuple" | .list => "list" | .dict => "dict"
theorem tyD (hK : rc.K = X.K) (S : SRel rc as h H) {d : D} {v : V} {t : Ty} {b : Bool} (r : RD rc as H d v) (e : t.is h d = some b) : ∃ u, TyX X.K H v u ∧ PySem.W.kitOne X.K u (.type t.nm) = some b := by
  cases d with
  | none =>
    simp only [RD] at r
    subst r
    cases e
    exact ⟨_, .base .non, kit_ty (by cases t <;> decide +kernel)⟩
  | bool y =>
    simp only [RD] at r
    subst r
    cases e
    exact ⟨_, .base (.bl y), kit_ty (by cases t <;> decide +kernel)⟩
  | int i =>
    simp only [RD] at r
    subst r
    cases e
    exact ⟨_, .base (.int i), kit_ty (by cases t <;> decide +kernel)⟩
  | str i =>
    simp only [RD] at r
    subst r
    cases e
    exact ⟨_, .base (.str i), kit_ty (by cases t <;> decide +kernel)⟩
  | tup xs =>
    simp only [RD] at r
    obtain ⟨q, vs, rfl, sq, _⟩ := r
    cases e
    have w : TyX X.K H (.ref q) (.type "tuple") := by
      rcases sq with (sq | ⟨o, sq⟩) | ⟨o, its, n, h1, h2, _⟩
      · exact .base (.tup sq)
      · exact .fTuple sq
      · exact .kTuple (hK ▸ h1) h2
    exact ⟨_, w, kit_ty (by cases t <;> decide +kernel)⟩
  | ref m =>
    simp only [Ty.is] at e
    split at e
    · rename_i xs hx
      obtain ⟨q, vs, rfl, _, hq, _⟩ := S.list hx r
      cases e
      exact ⟨_, .base (.lst hq), kit_ty (by cases t <;> decide +kernel)⟩
    · rename_i kvs hx
      obtain ⟨_, _, m⟩ := S.at hx
      exact m.elim
    · cases e
  | fn m => cases e
  | clo m => cases e
theorem c_isi (hK : rc.K = X.K) {t : Ty} : CallR X (.builtin "isinstance") fun vs H Q => ∃ as h d v b, SRel rc as h H ∧ RD rc as H d v ∧ vs = [v, V.ty t.nm] ∧ t.is h d = some b ∧ Q (.bl b) H := by
  rintro pins s σ H xs us Q I r ⟨as, h, d, v, b, S, rd, rfl, e, q⟩
  obtain ⟨u, t1, t2⟩ := tyD hK S rd e
  exact call_isi pins s σ H _ us Q I r ⟨v, .ty t.nm, u, .type t.nm, b, rfl, .ty _, t1, t2, q⟩
theorem e_isi {x : E} {t : Ty} {f tn : Str} {p2 : Pos} (hK : rc.K = X.K) (B : Blt X f (.builtin "isinstance")) (T : Blt X tn (.type t.nm)) (ha : PE X a (tE rc W (evE x k))) (hs : noStar [a] = true) : PE X (.Call (.Name f p) [a, .Name tn p2] [] pos) (tE rc W (evE (.isi x t) k)) := by
  have hb : PE X (.Name tn p2) (L2.tC (V.ty t.nm)) := pe_bltn (v := V.ty t.nm) T.gl T.free T.boot rfl T.ne T.db
  have hs2 : noStar [a, .Name tn p2] = true := by
    cases a <;> first
      | rfl
      | (simp [noStar] at hs; done)
  have ha2 : PA X [a, .Name tn p2] (tCons (tE rc W (evE x k)) (tCons (L2.tC (V.ty t.nm)) tNil)) := pa_cons ha (pa_cons hb pa_nil) (star_cons hs2)
  refine (pe_callB (c_isi (rc := rc) hK (t := t)) B.gl B.free B.boot ha2 B.ne B.db (star_cons hs2) (star_plain (noStar_tail hs2))).imp ?_
  rintro σ H Q ⟨as, env, h, E, S, q⟩
  rw [evE] at q
  refine ⟨as, env, h, E, S, q.bind.imp ?_⟩
  intro d as1 h1 H1 s1 S1 q1 v r
  obtain ⟨d1, e1, q2⟩ := q1.ofO S1
  obtain ⟨b1, e2, e3⟩ := Option.map_eq_some_iff.mp e1
  subst e3
  exact ⟨as1, h1, d, v, b1, S1, r, rfl, e2, q2 _ (by simp only [RD])⟩
end
end MI
end
section
/-! MQ: a lambda without parameters handed to a def that calls it and tells whether it was refused. -/
namespace MI
open PySem PySem.Spec PyProof.Rows L2
/-- the lambda's full name -/
abbrev lamN (X : Cx) : Str := X.env.qual ++ "<lambda>"
/-- the lambda as an object -/
abbrev lamO (X : Cx) (params : Arguments) (body : Expr) (scope : Scope) (pm : Value) (c : Addr) (ct : Value) : Obj :=
  PySem.W.kla_obj "<lambda>" (lamN X) params body scope (cloFrom X.env.cells scope.names []) pm c ct
/-- the context of the def that got the lambda -/
abbrev gotCx (X : Cx) (N : List Str) (q : Str) (sc : Scope) (g : Addr) (cd : Value) (s : Shared) (H : Hp) : Cx := cxOf C8.CX0 X.prog X.w X.K X.mg X.base N q sc g cd X.A X.stack s H C8.E0
section
variable {X : Cx} {rc : Rc} {W : WX} {σ : Sg} {as as1 : List Addr} {H H1 : Hp} {env : Env} {h : Hs} {k : Ct} {pos p p1 p2 apos : Pos} {e : Expr} {es : List Expr} {n : Nat} {x a : Str}
/-- a(), where a holds the lambda -/
theorem e_act {pins : List (Addr × Obj)} {s : Shared} {N : List Str} {q : Str} {sg scope : Scope} {g f c : Addr} {cd pm ct : Value} {params : Arguments} {body : Expr} {pn : List (Addr × Obj)} {xe : Value → Shared → Prop} {E : XK} {tb : TE}
    (I : Inv X pins σ H s) (L : LamX.LamS X.env.scope scope) (ho : s.heap.get? f = some (lamO X params body scope pm c ct)) (hn : H f = none) (hf : f ∉ frs X.stack)
    (hb : bindArgs (PySem.W.kla_fn "<lambda>" (lamN X) params body scope (cloFrom X.env.cells scope.names []) pm (.ref c) ct) ⟨[], []⟩ = pure [])
    (tk : Takes ((gotCx X N q sg g cd s H).tr pn xe) W) (hW : ∀ cls d σ' H', E cls d H' → W cls d σ' H') (hr : Room (n + 1) (X.A.deeper (envOfC q sg s.heap.objs.size g cd))) (hg : X.A.guards = some [])
    (run : ∀ (A : Around) (out : List PySem.Env) (s : Shared) (H : Hp), Room n (A.deeper (LamX.lamEnv X scope s.heap.objs.size f c)) → A.guards = some [] → PE (LamX.lamCx X A out s H E scope f c) body tb)
    (hN : N[0]? = some a) (hv : Vis sg a) (db : (a == ("__debug__" : Str)) = false) (dd : (a == ("__classdict__" : Str)) = false) :
    PE ((gotCx X N q sg g cd s H).tr pn xe) (.Call (.Name a p1) [] [] p2) (fun τ G Q => τ[0]? = some (some (.ref f)) ∧ G c = some (LamX.CodeO c (lamN X)) ∧ tb σ G Q) := by
  refine ⟨fun pinsZ sZ τ G Q J t => ?_⟩
  obtain ⟨t1, t2, t3⟩ := t
  have rd := (pe_var (X := (gotCx X N q sg g cd s H).tr pn xe) (pos := p1) (i := 0) hN hv db dd).run pinsZ sZ τ G (fun v G1 => v = .ref f ∧ G1 = G) J ⟨.ref f, t1, rfl, rfl⟩
  refine wpAny_Call_Name_kw (thn rd fun u s1 z => ?_)
  obtain ⟨v, G1, J1, rv, z1, z2⟩ := z
  subst z1
  rw [z2] at J1
  obtain rfl : u = Value.ref f := rv
  have ho1 : s1.heap.get? f = some (lamO X params body scope pm c ct) := J1.base.keep f _ ho hn hf (fun z => nomatch (show f ∈ ([] : List Addr) from z))
  have un1 : Un (frs X.stack) [] H G s.heap s1.heap := J1.base
  refine PySem.W.callWith_F0 ⟨_, _, _, _, ho1⟩ (wpAny_call (codeAny_mono (R := CR (L2.CX X.prog X.w) (envOfC q sg s.heap.objs.size g cd :: X.stack) X.prog X.w G s1 Q E) ?_ ?_))
  · obtain ⟨⟨oc, vs, tk', w1, w2, w3⟩, _, _⟩ := J1.hok c _ t2
    refine PySem.W.kla_callFunE hr.depth ho1 rfl L.co L.gen rfl ⟨c, oc, vs, tk', rfl, w1, w2, w3⟩ ?_
    rw [show bindArgs (PySem.W.kla_fn "<lambda>" (lamN X) params body scope (cloFrom X.env.cells scope.names []) pm (.ref c) ct) ⟨[] ++ [], []⟩ = pure [] from hb]
    refine wpAny_pure (wpAny_newFunctionEnv (fun y hy => (L.own y hy).2) (fun y hy => absurd hy (by simp)) (fun h₁ ns sb => ⟨J1.nolimit.fresh _ sb, ?_⟩) L.kind)
    have kp : ∀ b o, s1.heap.get? b = some o → h₁.get? b = some o := fun b o e => sb.extBut b o (Nat.ne_of_lt (Heap.lt_size e)) (Heap.get?_push_of_some _ e)
    have Jl := LamX.lam_start2 (E := E) (f := f) (c' := c) (tk := s1.toks + ([] : List (Str × Value)).length) I L J1.env0 hr.hd un1 ns kp
    refine PySem.W.kla_codeExpr (wpAny_mono ((run _ _ s1 G (hr.deeper _) hg).run [] _ _ G Q Jl t3) (fun v s' z => ?_) fun _ _ z => z)
    obtain ⟨w', G', J', rv', z⟩ := z
    exact ⟨w', G', J'.os, J'.bare, J'.base, J'.hok, rv', z⟩
  · intro r s' z
    match r, z with
    | .error u, z => exact passes_call tk hW pinsZ τ G s1 u s' J1 z
    | .ok (.ret u), z => exact J1.after z
    | .ok .next, z => exact z.elim
    | .ok .brk, z => exact z.elim
    | .ok .cont, z => exact z.elim
/-- the body of such a def: try: a() / except y: return True / return False -/
def askB (a y : Str) (j1 j2 : Nat) (q : List Pos) : List Stmt :=
  let z (i : Nat) : Pos := q.getD i ⟨0, 0, 0, 0⟩
  [.Try [.Expr (.Call (.Name a (z 0)) [] [] (z 1)) (z 2)] [.ExceptHandler (some (.Name y (z 3))) none [.Return (some (.Constant (.bool true) j1 (z 4))) (z 5)] (z 6)] [] [] (z 7), .Return (some (.Constant (.bool false) j2 (z 8))) (z 9)]
theorem takesF {X : Cx} : Takes X (fun _ _ _ _ => False) := fun _ _ z => by
  obtain ⟨_, _, _, _, _, _, _, _, _, _, _, _, _, _, _, _, z⟩ := z
  exact z.elim
/-- x(lambda: body), x such a def -/
theorem e_noth {pg params : Arguments} {sg scope : Scope} {g c P : Addr} {fd : FuncData} {N : List Str} {y : Str} {j1 j2 m : Nat} {qs : List Pos} {body : Expr} {d : E} {lpos : Pos}
    (hK : rc.K = X.K) (hex : ∀ a b, a < rc.nx → b < rc.nx → PySem.W.exmOne X.K (.ref (rc.ca a)) (.ref (rc.ca b)) = some (k.sub a b))
    (gl : Gl X x) (gm : X.mg x = some (.ref g)) (F : FunD X.K x x pg (askB a y j1 j2 qs) sg [] [] g fd) (B : Binds X.K fd [a] []) (S : FnScope N [a] sg) (hN : N[0]? = some a) (hv : Vis sg a)
    (gy : sg.names.lookup y = some .globalImplicit) (my : X.mg y = some (.ref (rc.ca m))) (lm : m < rc.nx)
    (TB : LamX.TabB X.base X.mg c P) (hc : X.env.code = .ref c) (hT : (P, lamN X) ∈ rc.T) (hu : ∀ p ∈ rc.T, p.1 = P → p.2 = lamN X) (hr : Room (n + 2) X.A) (hg : X.A.guards = some []) (L : LamX.LamS X.env.scope scope) (hd : defaultsOf params X.env = ([], []))
    (hb : ∀ (q : Str) (cl : List (Str × Addr)) (pm cv ct : Value), bindArgs (PySem.W.kla_fn "<lambda>" q params body scope cl pm cv ct) ⟨[], []⟩ = pure [])
    (run : ∀ (A : Around) (out : List PySem.Env) (s : Shared) (H : Hp) (E : XK) (f c : Addr), Room n (A.deeper (LamX.lamEnv X scope s.heap.objs.size f c)) → A.guards = some [] → PE (LamX.lamCx X A out s H E scope f c) body (tE rc (fun cls dd _ H' => E cls dd H') (evE d { k with off := k.off + 2 })))
    (dx : (x == ("__debug__" : Str)) = false) (da : (a == ("__debug__" : Str)) = false) (dd : (a == ("__classdict__" : Str)) = false) (dy : (y == ("__debug__" : Str)) = false) :
    PE X (.Call (.Name x p) [.Lambda params body scope lpos] [] pos) (tE rc W (evE (.noth m d) k)) := by
  obtain ⟨oc, od, dV, kV, doc, pm, an, cd, ct, osl, rfl, lk, hcd, _, _⟩ := F.ex
  refine ⟨fun pins s σ H Q I t => ?_⟩
  obtain ⟨as, env, h, E, S0, q⟩ := t
  rw [evE] at q
  refine wpAny_Call_Name_kw (ld_glob I gl gm ?_ dx)
  refine PySem.W.callWith_K (h₀ := X.base) I.ok.mod.kin F.kp ?_ rfl rfl
  refine Calls.spliced_cons (LamX.lam_make2 I TB hc hT hu S0.tab hd (L.has I.ok) fun f c' pm' ct' H1 s' I1 eN T1 ho hn hf hco => ?_)
  refine Calls.spliced_nil ⟨I1.kIn, ?_⟩
  -- the state behind the making
  have st : Stp as H as H1 := ⟨⟨[], by simp⟩, fun b hb => .inl hb, fun b o e _ ht => eN b o e ht⟩
  have S1 : SRel rc as h H1 := S0.keep st T1 fun b hb => by
    obtain ⟨o, e, z⟩ := S0.cell hb
    rw [e]
    exact eN b o e fun ps w => by rw [w] at z; exact z
  have E1 := E.mono S0 st
  have q1 := Post.from st q
  -- the two ends
  have q2 := Post.gcX S1 q1
  refine wpAny_call (codeAny_mono (R := CR C8.CX0 X.stack X.prog X.w H1 s' Q C8.E0) (LamX.run_ofS (k := n + 1) (N := N) (ps := [a]) (us := [.ref f]) (vs := [.ref f]) lk hcd S hr I1.env0 (B s' [.ref f] I1.kIn rfl) (.cons rfl .nil) rfl fun hr' => ?_) fun r s2 z => ?_)
  · have gyZ : Gl (gotCx X N x sg g cd s' H1) y := gy
    have body := ps_try_only (X := gotCx X N x sg g cd s' H1) (x := y) (c := .ref (rc.ca m)) (np := qs.getD 3 ⟨0, 0, 0, 0⟩) (pos := qs.getD 7 ⟨0, 0, 0, 0⟩) (pos' := qs.getD 6 ⟨0, 0, 0, 0⟩)
      (b₀ := .Return (some (.Constant (.bool true) j1 (qs.getD 4 ⟨0, 0, 0, 0⟩))) (qs.getD 5 ⟨0, 0, 0, 0⟩)) (suite := []) (body := [.Expr (.Call (.Name a (qs.getD 0 ⟨0, 0, 0, 0⟩)) [] [] (qs.getD 1 ⟨0, 0, 0, 0⟩)) (qs.getD 2 ⟨0, 0, 0, 0⟩)])
      (tb := fun W D τ G => ∃ E : XK, (∀ cls d σ' H', E cls d H' → W cls d σ' H') ∧ τ[0]? = some (some (.ref f)) ∧ G c' = some (LamX.CodeO c' (lamN X)) ∧ tE rc (fun cls dd _ H' => E cls dd H') (evE d { k with off := k.off + 2 }) σ G fun _ G' => D.nx τ G')
      (ts := fun _ _ _ => tRet (L2.tC (.bl true))) (Wout := fun _ _ _ _ => False) rfl rfl ⟨gyZ, dy, .inl my⟩ takesF
      (fun W pn xe tk _ => ⟨fun pins' s2 τ G D J t => by
        obtain ⟨E, hW, t1, t2, t3⟩ := t
        have act := e_act (n := n) (p1 := qs.getD 0 ⟨0, 0, 0, 0⟩) (p2 := qs.getD 1 ⟨0, 0, 0, 0⟩) I1 L ho hn hf (hb _ _ _ _ _) tk hW hr' hg (fun A out s H r1 r2 => run A out s H E f c' r1 r2) hN hv da dd
        exact (pss_one (ps_expr act (by rfl))).run pins' s2 τ G D J ⟨t1, t2, t3⟩⟩)
      (fun _ _ _ _ _ _ _ => pss_one (ps_ret pe_bl))
    refine ⟨_, pss_cons body (pss_one (ps_ret pe_bl)), fun cls _ H' => ∃ b, PySem.W.exmOne X.K cls (.ref (rc.ca m)) = some b ∧ (b = true → Q (.bl true) H') ∧ (b = false → False), ?_, ?_, hco, as, env, h, E1, S1, ?_⟩
    · rintro cls _ σ' H' ⟨b, b1, b2, b3⟩
      exact ⟨b, b1, fun z _ _ => b2 z, b3⟩
    · rfl
    · revert q2
      cases evE d { k with off := k.off + 2 } env h with
      | ok d0 h1 =>
        intro q2 as' H' s3 S3 v _
        obtain ⟨as2, h2, _, _, P, _⟩ := q2 as' H' s3 S3
        exact P (.bl false) (by simp only [RD])
      | exc u h1 =>
        intro q2 as' H' cls _ s3 S3 xr
        obtain ⟨rfl, hx, _⟩ := xr
        refine ⟨_, hex _ _ hx lm, fun w => ?_, fun w => ?_⟩
        · dsimp only at q2
          rw [if_pos w] at q2
          obtain ⟨as2, h2, _, _, P, _⟩ := q2 as' H' s3 S3
          exact P (.bl true) (by simp only [RD])
        · dsimp only at q2
          rw [if_neg (by rw [w]; exact Bool.false_ne_true)] at q2
          exact q2
      | stuck => exact fun q2 => q2
  · match r, z with
    | .error u, z => exact z.elim
    | .ok (.ret u), z => exact I1.after z
    | .ok .next, z => exact z.elim
    | .ok .brk, z => exact z.elim
    | .ok .cont, z => exact z.elim
end
end MI
end
section
set_option maxHeartbeats 1000000
/-! M1: enumerate of a tuple, of a list. -/
namespace MI
open PySem PySem.Spec PyProof.Rows L2
open PySem.Sem (wp)
/-- the tuple at a, each item with its number in a new pair -/
def Itet (K : PySem.W.Frag) (a : Addr) : L2.It :=
  ⟨fun i H => ∃ (xs : List V) (x : V), SqT K H a xs ∧ xs[i]? = some x, fun i H v H' => ∃ T x, v = .ref T ∧ H T = none ∧ H' = upd H T (.tup [.int (i : Nat), x]) ∧ ∀ xs, SqT K H a xs → xs[i]? = some x, fun i H => ∃ xs : List V, SqT K H a xs ∧ xs.length = i⟩
theorem turn_et {P : Program} {w : World} {K : PySem.W.Frag} {elts : List Expr} {kk : Nat} {tp : Pos} (a e it : Addr) (na : a ≠ it) :
    Turn P w K (.Tuple elts kk tp) (Itet K a) [e, it] e (fun i h => (∃ old, IsEnum h e it ((i : Nat) : Int) old) ∧ h.IsTupleIter it a i ∧ e ≠ it) where
  mem := List.mem_cons_self
  obj := fun i h st b hb => by
    obtain ⟨⟨old, he⟩, ⟨o, ho, hc, hd⟩, _⟩ := st
    rcases List.mem_cons.mp hb with rfl | hb
    · exact ⟨_, he, fun v q => nomatch q⟩
    · obtain rfl := List.mem_singleton.mp hb
      exact ⟨o, ho, fun v q => nomatch hd.symm.trans q⟩
  keep := fun i h h' ⟨⟨old, he⟩, hi, ne⟩ k => ⟨⟨old, k e List.mem_cons_self _ he⟩, hi.at fun o q => k it (by simp) o q, ne⟩
  item := by
    rintro X rfl rfl rfl hc i pins s σ H E I hf ⟨⟨old, he⟩, hit, ne⟩ ⟨xs, x, hq, hx⟩
    obtain ⟨its, rv, p, hz⟩ := I.tuple hq
    obtain ⟨u, hu, ru⟩ := rv.get hx
    have tup : s.heap.IsTuple a its.toArray := p
    have le : e < s.heap.objs.size := Heap.lt_size he
    have li : it < s.heap.objs.size := by
      obtain ⟨_, q, _⟩ := hit
      exact Heap.lt_size q
    have ea : e ≠ a := by
      rintro rfl
      obtain ⟨o, q1, q2, _⟩ := tup
      rw [he] at q1
      cases q1
      exact absurd (show Value.type "enumerate" = Value.type "tuple" from q2) (by decide)
    have hs : i < its.toArray.size := by
      have := (List.getElem?_eq_some_iff.mp hu).1
      simpa using this
    have hh : X.A.in1.handled = none := I.ok.hd hc
    refine wpAny_pyNext_enum_itemD (Draws.tuple hh it a na its.toArray) he ⟨hit, tup⟩ hs ne (by simp [ne, ea]) fun z h' tk hP ho hst hT hsz hk => ?_
    have hzu : z = u := by
      have : its.toArray[i]? = some z := hP
      rw [show its.toArray[i]? = its[i]? from by simp, hu] at this
      exact (Option.some.inj this).symm
    subst hzu
    refine ⟨_, rfl, wpAny_letOwnedTupleGo_enum (s := { s with heap := h', toks := tk + 1 }) ho fun h'' he' sb => ?_⟩
    have hT2 : h''.get? s.heap.objs.size = some { cls := .type "tuple", data := .seq #[.int i tk, z] } := (sb.2 _ (Nat.ne_of_gt le)).trans hT
    have new : ObjOk X.prog X.w (upd H s.heap.objs.size (.tup [.int (i : Nat), x])) h'' s.heap.objs.size (.tup [.int (i : Nat), x]) :=
      ⟨by show 2 ≤ sizeLine; decide, [.int i tk, z], .cons ⟨_, rfl⟩ (.cons ru .nil), ⟨_, hT2, rfl, _, rfl⟩⟩
    have I1 : Inv X pins σ (upd H s.heap.objs.size (.tup [.int (i : Nat), x])) { s with heap := h'', toks := tk + 1 } :=
      I.turnedNew (ch := [e, it]) (fun b ob hb q => (sb.2 b (fun z => hb (by simp [z]))).trans (hk b ob (fun z => hb (by simp [z])) (fun z => hb (by simp [z])) q)) hf (Nat.le_refl _) new
    refine ⟨.ref s.heap.objs.size, _, I1, rfl, ⟨_, x, rfl, I.hok.fresh (Nat.le_refl _), rfl, fun ys hy => by rw [I.tuple_inj hy hq]; exact hx⟩, ⟨⟨z, ?_⟩, hst.1.at fun o q => (sb.2 it (Ne.symm ne)).trans q, ne⟩, fun b hb => ?_⟩
    · have e1 : ((i + 1 : Nat) : Int) = (i : Int) + 1 := by omega
      rw [e1]
      exact he'
    · have lb : b < s.heap.objs.size := by
        rcases List.mem_cons.mp hb with rfl | hb
        · exact le
        · rw [List.mem_singleton.mp hb]
          exact li
      rw [upd_ne (Nat.ne_of_lt lb)]
      exact (hf b hb).1
  done := by
    rintro X rfl rfl rfl hc i pins s σ H E I hf ⟨⟨old, he⟩, hit, ne⟩ ⟨xs, hq, hx⟩
    obtain ⟨its, rv, p, hz⟩ := I.tuple hq
    have tup : s.heap.IsTuple a its.toArray := p
    obtain ⟨f0, f1, f2, f3, f4, f5⟩ := hf it (by simp)
    have hh : X.A.in1.handled = none := I.ok.hd hc
    have hl := rv.length
    have hs : i = its.toArray.size := by
      rw [List.size_toArray, ← hl]
      exact hx.symm
    subst hs
    exact wpAny_pyNext_enum_endD (Draws.tuple hh it a na its.toArray) he ⟨hit, tup⟩ fun h' eb => ⟨rfl, I.turned (t' := s.toks) (fun b o hb q => eb b o hb q) f0 f1 f3 f4 f5⟩
  self := fun A i s Q E ⟨⟨_, he⟩, _⟩ h => wpAny_pyIter_enum he h
/-- enumerate(v): its iterator, itself -/
theorem enum1_new {v : Value} {o : Obj} {G : Heap → Prop} (B : Begins v o G) :
    Meets (Builtin.«enumerate.__new__» ⟨[.type "enumerate", v], []⟩) (fun _ R s => G s.heap ∧ R (.ok (.ret (.ref (s.heap.push o).objs.size)))
      { s with heap := (s.heap.push o).push { cls := .type "enumerate", data := .fields #[.none, .bool false, .ref s.heap.objs.size, rawInt 0, .none, .none] } }) :=
  .of_wp fun prog w A R s h => by
    obtain ⟨hp, g, d, tk, os⟩ := s
    obtain ⟨h1, h⟩ := h
    have hsub := sub_enumerate
    have go : ∀ {A' : Around} {E Q : Value → Shared → Prop}, Q (.ref hp.objs.size) ⟨hp.push o, g, d, tk, os⟩ → wpAny (model prog w) A' (pyIter v) Q E ⟨hp, g, d, tk, os⟩ :=
      fun q => B.iter prog w _ _ ⟨hp, g, d, tk, os⟩ _ h1 q
    wp_walk using go
    refine wpAny_stack_any fun st => wpAny_pure ?_
    split
    · rename_i c _ _ _ _ _
      cases (c == Value.type "enumerate") <;> (wp_walk using go; exact ⟨_, rfl, h⟩)
    · wp_walk using go
      exact ⟨_, rfl, h⟩
theorem enum1_call {prog : Program} {w : World} {A : Around} {E : Value → Shared → Prop} {s : Shared} {v : Value} {o : Obj} {G : Heap → Prop} {Q : Value → Shared → Prop} (B : Begins v o G) (h1 : G s.heap)
    (h : ∀ h', IsEnum h' (s.heap.objs.size + 1) s.heap.objs.size 0 .none → h'.get? s.heap.objs.size = some o → (∀ b u, s.heap.get? b = some u → h'.get? b = some u) → Q (.ref (s.heap.objs.size + 1)) { s with heap := h' }) :
    wpAny (model prog w) A (call (.type "enumerate") [v]) Q E s := by
  refine callType_new F.called_enumerate (by decide) (F.typeCall_enumerate_1 _) (F.newCall_enumerate_1 _) (fun obj => F.args_object_init_2 obj _) F.entry_enumerate_new (enum1_new B) ⟨h1, ?_⟩
  have hz : (s.heap.push o).objs.size = s.heap.objs.size + 1 := Heap.size_push ..
  have he : IsEnum ((s.heap.push o).push { cls := .type "enumerate", data := .fields #[.none, .bool false, .ref s.heap.objs.size, rawInt 0, .none, .none] }) (s.heap.objs.size + 1) s.heap.objs.size 0 .none := by
    rw [← hz]
    exact Heap.get?_push_size (s.heap.push o) rfl
  show _ ∧ _
  rw [hz]
  exact ⟨⟨_, he, rfl⟩, h _ he (Heap.get?_push_of_some _ (Heap.get?_push_size _ B.free)) fun b u x => Heap.get?_push_of_some _ (Heap.get?_push_of_some _ x)⟩
/-- of a list or a tuple, as it comes -/
def iEnumA (K : PySem.W.Frag) (ta : TA) : TI := fun σ H R => ta σ H fun vs H1 => ∃ a, vs = [.ref a] ∧ ((∃ xs, SqT K H1 a xs ∧ R (Itet K a) H1) ∨ ∃ xs, SqL K H1 a xs ∧ R (Ite K a) H1)
theorem pi_ea {X : Cx} {e : Expr} {ta : TA} {p pos tp : Pos} {elts : List Expr} {kk : Nat} (B : Blt X "enumerate" (.type "enumerate")) (ha : PA X [e] ta) (hs : noStar [e] = true) :
    PI X (.Tuple elts kk tp) (.Call (.Name "enumerate" p) [e] [] pos) (iEnumA X.K ta) := by
  refine ⟨fun pins s σ H R I h => ?_⟩
  refine Call_ (ld_blt I B.gl B.free B.boot (PyProof.Rows.callWith_type1 (thn (ha.run pos pins s σ H _ I h) fun us s1 z => ?_) (star_cons hs) rfl))
  obtain ⟨vs, H1, I1, r1, a, rfl, q⟩ := z
  obtain ⟨u, rfl, ru⟩ := Vals.one r1
  cases ru
  have hle : ∀ b ∈ [s1.heap.objs.size + 1, s1.heap.objs.size], s1.heap.objs.size ≤ b := fun b hb => by
    rcases List.mem_cons.mp hb with rfl | hb
    · exact Nat.le_succ _
    · rw [List.mem_singleton.mp hb]
      exact Nat.le_refl _
  rcases q with ⟨xs, hq, q⟩ | ⟨xs, hq, q⟩
  · obtain ⟨its, rv, p', hz⟩ := I1.tuple hq
    have tup : s1.heap.IsTuple a its.toArray := p'
    have la : a < s1.heap.objs.size := by
      obtain ⟨_, q, _⟩ := tup
      exact Heap.lt_size q
    refine enum1_call (begins_tuple a its.toArray) tup fun h' he hit hk => wpAny_pyIter_enum he ?_
    have I2 : Inv X pins σ H1 { s1 with heap := h' } := I1.kept (t' := s1.toks) hk
    exact ⟨s1.heap.objs.size + 1, [s1.heap.objs.size + 1, s1.heap.objs.size], _, _, H1, rfl, I2, turn_et a (s1.heap.objs.size + 1) s1.heap.objs.size (Nat.ne_of_lt la), ⟨⟨.none, he⟩, ⟨_, hit, rfl, rfl⟩, Nat.succ_ne_self _⟩, fun b hb => I1.fpOk (hle b hb) (I1.hok.fresh (hle b hb)), q⟩
  · obtain ⟨its, rv, p', hz⟩ := I1.list hq
    refine enum1_call (begins_list a its.toArray) p'.isList fun h' he hit hk => wpAny_pyIter_enum he ?_
    have I2 : Inv X pins σ H1 { s1 with heap := h' } := I1.kept (t' := s1.toks) hk
    exact ⟨s1.heap.objs.size + 1, [s1.heap.objs.size + 1, s1.heap.objs.size], _, _, H1, rfl, I2, turn_enum a (s1.heap.objs.size + 1) s1.heap.objs.size, ⟨⟨.none, he⟩, ⟨_, hit, rfl, rfl⟩, Nat.succ_ne_self _⟩, fun b hb => I1.fpOk (hle b hb) (I1.hok.fresh (hle b hb)), q⟩
section
variable {X : Cx} {rc : Rc} {W : WX} {k : Ct} {a b : Expr} {pos p : Pos}
theorem wk_et (hK : rc.K = X.K) {as : List Addr} {H : Hp} {q : Addr} {vs : List V} {xs : List D} (sq : SqT X.K H q vs) (r : RDs rc as H xs vs) (hz : vs.length ≤ sizeLine) : Wk rc as H (enumD 0 xs, []) (Itet X.K q) := by
  refine ⟨by rw [enumD_length, r.length]; exact hz, ?_⟩
  intro i as1 H1 h1 s1 S1 _
  have sq1 : SqT X.K H1 q vs := hK ▸ s1.kp.sqT (rc := rc) (hK ▸ sq)
  have r1 := r.mono' s1.kp
  refine ⟨fun d e => ?_, fun hi => ?_⟩
  · obtain ⟨x, ex, rfl⟩ := enumD_get e
    obtain ⟨v, ev, rv⟩ := r1.get ex
    refine ⟨⟨vs, v, sq1, ev⟩, fun w H' y => ?_⟩
    obtain ⟨T, z, rfl, hT, rfl, hz⟩ := y
    have e2 := hz vs sq1
    rw [ev] at e2
    cases e2
    rw [Nat.zero_add]
    exact new_pair S1 (by simp only [RD]) rv hT
  · rw [enumD_length, r1.length] at hi
    exact ⟨vs, sq1, hi⟩
theorem wk_el (hK : rc.K = X.K) {as : List Addr} {H : Hp} {q : Addr} {n : Nat} {xs : List D} (eq : as[n]? = some q) (hz : xs.length ≤ sizeLine) : Wk rc as H (enumD 0 xs, [(n, xs)]) (Ite X.K q) := by
  refine ⟨by rw [enumD_length]; exact hz, ?_⟩
  intro i as1 H1 h1 s1 S1 g
  obtain ⟨vs, sq1, r1⟩ := gd1_ok S1 (by simpa [Gd.ok] using g) (s1.kp.at eq)
  rw [hK] at sq1
  refine ⟨fun d e => ?_, fun hi => ?_⟩
  · obtain ⟨x, ex, rfl⟩ := enumD_get e
    obtain ⟨v, ev, rv⟩ := r1.get ex
    refine ⟨⟨vs, v, sq1, ev⟩, fun w H' y => ?_⟩
    obtain ⟨T, z, rfl, hT, rfl, hz⟩ := y
    have e2 := hz vs sq1
    rw [ev] at e2
    cases e2
    rw [Nat.zero_add]
    exact new_pair S1 (by simp only [RD]) rv hT
  · rw [enumD_length, r1.length] at hi
    exact ⟨vs, sq1, Nat.le_of_eq hi⟩
/-- a list that stands still -/
theorem wk_ef (hK : rc.K = X.K) {as : List Addr} {H : Hp} {q : Addr} {vs : List V} {xs : List D} (e : H q = some (.lst vs)) (nq : q ∉ as) (r : RDs rc as H xs vs) (hz : vs.length ≤ sizeLine) : Wk rc as H (enumD 0 xs, []) (Ite X.K q) := by
  refine ⟨by rw [enumD_length, r.length]; exact hz, ?_⟩
  intro i as1 H1 h1 s1 S1 _
  have sq1 : SqL X.K H1 q vs := .of (s1.ext q _ e (.inl nq) fun ps z => nomatch z)
  have r1 := r.mono' s1.kp
  refine ⟨fun d e => ?_, fun hi => ?_⟩
  · obtain ⟨x, ex, rfl⟩ := enumD_get e
    obtain ⟨v, ev, rv⟩ := r1.get ex
    refine ⟨⟨vs, v, sq1, ev⟩, fun w H' y => ?_⟩
    obtain ⟨T, z, rfl, hT, rfl, hz⟩ := y
    have e2 := hz vs sq1
    rw [ev] at e2
    cases e2
    rw [Nat.zero_add]
    exact new_pair S1 (by simp only [RD]) rv hT
  · rw [enumD_length, r1.length] at hi
    exact ⟨vs, sq1, Nat.le_of_eq hi⟩
theorem i_enum {x : E} {elts : List Expr} {kk : Nat} {tp : Pos} (hK : rc.K = X.K) (B : Blt X "enumerate" (.type "enumerate")) (ha : PE X a (tE rc W (evE x k))) (hs : noStar [a] = true) :
    PI X (.Tuple elts kk tp) (.Call (.Name "enumerate" p) [a] [] pos) (tI rc W (evI (.enum x) k)) := by
  refine (PI.bnd (pi_ea B (pa_cons ha pa_nil (star_cons hs)) hs)).imp ?_
  rintro σ H R ⟨as, env, h, E, S, q⟩
  rw [evI] at q
  refine ⟨as, env, h, E, S, q.bind.imp fun d as1 h1 H1 s1 S1 q1 v r => ?_⟩
  obtain ⟨w, ew, kR⟩ := q1.ofO S1
  obtain ⟨pr, ep, rfl⟩ := Option.map_eq_some_iff.mp ew
  unfold seqO at ep
  split at ep
  · cases ep
    simp only [RD] at r
    obtain ⟨q1, vs, rfl, sq, rs⟩ := r
    exact ⟨q1, rfl, .inl ⟨vs, hK ▸ sq, fun bd => kR _ (wk_et hK (hK ▸ sq) rs (bd.2 _ _ (hK ▸ sq)))⟩⟩
  · split at ep
    · rename_i xs hn
      cases ep
      obtain ⟨q1, vs, rfl, e1, sq, rs⟩ := S1.list hn r
      exact ⟨q1, rfl, .inr ⟨vs, .of sq, fun bd => kR _ (wk_el hK e1 (by rw [rs.length]; exact bd.1 _ _ (.of sq)))⟩⟩
    · cases ep
  · cases ep
theorem i_enumL {l : L} {elts : List Expr} {kk : Nat} {tp : Pos} (hK : rc.K = X.K) (B : Blt X "enumerate" (.type "enumerate")) (ha : PE X a (tL rc W (evL l k))) (hs : noStar [a] = true) :
    PI X (.Tuple elts kk tp) (.Call (.Name "enumerate" p) [a] [] pos) (tI rc W (evI (.enumL l) k)) := by
  refine (PI.bnd (pi_ea B (pa_cons ha pa_nil (star_cons hs)) hs)).imp ?_
  rintro σ H R ⟨as, env, h, E, S, q⟩
  rw [evI] at q
  refine ⟨as, env, h, E, S, q.bind.imp fun d as1 h1 H1 s1 S1 q1 v vs e1 nq _ rs => ?_⟩
  exact ⟨v, rfl, .inr ⟨vs, .of e1, fun bd => q1.ok S1 _ (wk_ef hK e1 nq rs (bd.1 _ _ (.of e1)))⟩⟩
end
end MI
end
section
set_option maxHeartbeats 1000000
/-! M2: enumerate of zip of two tuples. -/
namespace MI
open PySem PySem.Spec PyProof.Rows L2
open PySem.Sem (wp)
/-- a zip object, its own tuple handed out or not -/
def ZO (h : Heap) (z TI TO : Addr) (f0 f1 : Value) : Prop := h.get? z = some { cls := .type "zip", dict := none, data := .fields #[f0, f1, .bool false, .ref TI, .ref TO], slots := #[] }
/-- what its first field may be -/
def Zf (f : Value) : Prop := f = .none ∨ ∃ T : Nat, f = rawInt (T : Int)
structure ZS (h : Heap) (z TI TO i1 i2 l1 l2 : Addr) (n : Nat) : Prop where
  z : ∃ f0 f1, ZO h z TI TO f0 f1 ∧ Zf f0
  ti : IsPair h TI (.ref i1) (.ref i2)
  to : ∃ a b, IsPair h TO a b
  one : h.IsTupleIter i1 l1 n
  two : h.IsTupleIter i2 l2 n
section
variable {prog : Program} {w : World} {A : Around} {E : Value → Shared → Prop} {s : Shared}
theorem wp_alive {α : Type} {a : Addr} {k : Option Obj → Sem α} {Q : α → Shared → Prop} (h : wpAny (model prog w) A (k (s.heap.get? a)) Q E s) : wpAny (model prog w) A (.loadIfAlive a k) Q E s := fun Γ p hΓ => by
  rw [PySem.Sem.wp_loadIfAlive]
  exact h Γ p hΓ
/-- is the own tuple free? -/
theorem zfree {z TI TO : Addr} {f0 f1 : Value} {Q : Bool → Shared → Prop} (hz : ZO s.heap z TI TO f0 f1) (hf : Zf f0) (h : ∀ b h' g1, ZO h' z TI TO f0 g1 → Heap.SameBut z s.heap h' → Q b { s with heap := h' }) :
    wpAny (model prog w) A (Builtin.SmallTypes.ownedTupleIsFree (.ref z)) Q E s := by
  unfold Builtin.SmallTypes.ownedTupleIsFree
  refine wpAny_bind (wpAny_field hz rfl (x := f0) rfl ?_)
  rcases hf with rfl | ⟨T, rfl⟩
  · exact wpAny_pure (h true s.heap f1 hz (.refl _ _))
  · show wpAny (model prog w) A (do
      if (← loadIfAlive ((T : Int)).toNat).isNone then return true
      if (← field (.ref z) 1) != .bool true then setField (.ref z) 1 (.bool true)
      return false) Q E s
    refine wpAny_bind (wp_alive (wpAny_pure ?_))
    split
    · exact wpAny_pure (h true s.heap f1 hz (.refl _ _))
    · refine wpAny_bind (wpAny_field hz rfl (x := f1) rfl ?_)
      split
      · refine wpAny_bind (wpAny_setField_rec hz (by simp) fun h1 hz1 hs1 => wpAny_pure (h false h1 (.bool true) hz1 hs1))
      · exact wpAny_bind (wpAny_pure (wpAny_pure (h false s.heap f1 hz (.refl _ _))))
/-- one turn of zip -/
theorem zn_item {z TI TO i1 i2 l1 l2 : Addr} {n : Nat} {xs ys : Array Value} {x y : Value} {Q : Value → Shared → Prop} (D : ZipApart z TI TO i1 i2 l1 l2) (S : ZS s.heap z TI TO i1 i2 l1 l2 n) (t1 : s.heap.IsTuple l1 xs) (t2 : s.heap.IsTuple l2 ys) (hx : xs[n]? = some x) (hy : ys[n]? = some y)
    (hQ : ∀ h', ZS h' z TI TO i1 i2 l1 l2 (n + 1) → IsPair h' s.heap.objs.size x y → h'.objs.size = s.heap.objs.size + 1 → (∀ c o, c ≠ z → c ≠ TO → c ≠ i1 → c ≠ i2 → s.heap.get? c = some o → h'.get? c = some o) → Q (.ref s.heap.objs.size) { s with heap := h' }) :
    wpAny (model prog w) A (Builtin.«zip.__next__» ⟨[.ref z], []⟩) (fun fin s' => ∃ v, fin = .done (.ret v) ∧ Q v s') E s := by
  obtain ⟨⟨f0, f1, hz, hf⟩, hTI, ⟨a, b, hTO⟩, h1, h2⟩ := S
  show wpAny _ _ (field (.ref z) 2 >>= _) _ _ _
  refine wpAny_bind (wpAny_field hz rfl (x := .bool false) rfl ?_)
  show wpAny _ _ (field (.ref z) 3 >>= _) _ _ _
  refine wpAny_bind (wpAny_field hz rfl (x := .ref TI) rfl ?_)
  refine wpAny_bind (wpAny_seqItems hTI rfl ?_)
  show wpAny _ _ (Builtin.SmallTypes.ownedTupleIsFree (.ref z) >>= _) _ _ _
  refine wpAny_bind (zfree hz hf fun own g0 g1 hz0 sb0 => ?_)
  have k0 : ∀ c o, c ≠ z → s.heap.get? c = some o → g0.get? c = some o := fun c o hc e => sb0.extBut _ _ hc e
  have TI0 : IsPair g0 TI (.ref i1) (.ref i2) := k0 _ _ D.TIz hTI
  have TO0 : IsPair g0 TO a b := k0 _ _ D.TOz hTO
  have e1 : g0.IsTupleIter i1 l1 n := h1.extBut sb0.extBut D.i1z
  have e2 : g0.IsTupleIter i2 l2 n := h2.extBut sb0.extBut D.i2z
  have u1 : g0.IsTuple l1 xs := t1.extBut sb0.extBut D.l1z
  have u2 : g0.IsTuple l2 ys := t2.extBut sb0.extBut D.l2z
  have sz0 : g0.objs.size = s.heap.objs.size := sb0.1
  cases own with
  | true =>
    simp only [if_true]
    refine wpAny_bind (wpAny_rule (wpAny_bind (wpAny_field hz0 rfl (x := .ref TO) rfl ?_)))
    refine wpAny_bind (wpAny_setField_rec hz0 (by simp) fun g2 hz2 sb2 => ?_)
    have hz2 : ZO g2 z TI TO .ellipsis g1 := hz2
    refine wpAny_bind ?_
    simp only [List.zipIdx_cons, List.zipIdx_nil, List.forIn_cons, List.forIn_nil]
    refine wpAny_bind (wpAny_bind (wpAny_onRaise ?_))
    show wpAny _ _ (Builtin.SmallTypes.nextOf (.ref i1) >>= _) _ _ _
    refine wpAny_bind (RZ.nextOf_tuple_item (e1.extBut sb2.extBut D.i1z) (u1.extBut sb2.extBut D.l1z) hx fun g3 n1 sb3 => wpAny_pure ?_)
    have TO3 : IsPair g3 TO a b := sb3.extBut _ _ D.TOi1 (sb2.extBut _ _ D.TOz TO0)
    refine wpAny_bind (wpAny_seqItems TO3 rfl (wpAny_bind (wpAny_updateSeq_pair TO3 fun g4 TO4 sb4 => ?_)))
    have TO4 : IsPair g4 TO x b := TO4
    refine wpAny_bind (wpAny_letGo (wpAny_pure ?_))
    refine wpAny_bind (wpAny_bind (wpAny_onRaise ?_))
    show wpAny _ _ (Builtin.SmallTypes.nextOf (.ref i2) >>= _) _ _ _
    refine wpAny_bind (RZ.nextOf_tuple_item (((e2.extBut sb2.extBut D.i2z).extBut sb3.extBut D.i12.symm).extBut sb4.extBut D.TOi2.symm) (((u2.extBut sb2.extBut D.l2z).extBut sb3.extBut D.l2i1).extBut sb4.extBut D.l2TO) hy fun g5 n2 sb5 => wpAny_pure ?_)
    have TO5 : IsPair g5 TO x b := sb5.extBut _ _ D.TOi2 TO4
    refine wpAny_bind (wpAny_seqItems TO5 rfl (wpAny_bind (wpAny_updateSeq_pair TO5 fun g6 TO6 sb6 => ?_)))
    have TO6 : IsPair g6 TO x y := TO6
    refine wpAny_bind (wpAny_letGo (wpAny_pure (wpAny_pure ?_)))
    refine wpAny_bind (wpAny_seqItems TO6 rfl (wpAny_bind (wpAny_newTuple ?_)))
    have sz6 : g6.objs.size = s.heap.objs.size := by rw [sb6.1, sb5.1, sb4.1, sb3.1, sb2.1, sz0]
    have hz6 : ZO g6 z TI TO .ellipsis g1 := sb6.extBut _ _ D.TOz.symm (sb5.extBut _ _ D.i2z.symm (sb4.extBut _ _ D.TOz.symm (sb3.extBut _ _ D.i1z.symm hz2)))
    have k6 : ∀ c o, c ≠ z → c ≠ TO → c ≠ i1 → c ≠ i2 → s.heap.get? c = some o → g6.get? c = some o := fun c o c1 c2 c3 c4 e =>
      sb6.extBut _ _ c2 (sb5.extBut _ _ c4 (sb4.extBut _ _ c2 (sb3.extBut _ _ c3 (sb2.extBut _ _ c1 (k0 c o c1 e)))))
    have n16 : g6.IsTupleIter i1 l1 (n + 1) := ((n1.extBut sb4.extBut D.TOi1.symm).extBut sb5.extBut D.i12).extBut sb6.extBut D.TOi1.symm
    have n26 : g6.IsTupleIter i2 l2 (n + 1) := n2.extBut sb6.extBut D.TOi2.symm
    have lz : z < g6.objs.size := Heap.lt_size hz6
    show wpAny _ _ (Builtin.SmallTypes.ownedTupleHandOut (.ref z) (.ref g6.objs.size) >>= _) _ _ _
    refine wpAny_bind ?_
    unfold Builtin.SmallTypes.ownedTupleHandOut
    have hz7 : ZO (g6.push { cls := .type "tuple", data := .seq #[x, y] }) z TI TO .ellipsis g1 := Heap.get?_push_of_some _ hz6
    refine wpAny_bind (wpAny_setField_rec hz7 (by simp) fun g8 hz8 sb8 => ?_)
    have hz8 : ZO g8 z TI TO (rawInt g6.objs.size) g1 := hz8
    refine wpAny_setField_rec hz8 (by simp) fun g9 hz9 sb9 => ?_
    have hz9 : ZO g9 z TI TO (rawInt g6.objs.size) (.bool false) := hz9
    have up : ∀ c o, c ≠ z → g6.get? c = some o → g9.get? c = some o := fun c o c1 e => sb9.extBut _ _ c1 (sb8.extBut _ _ c1 (Heap.get?_push_of_some _ e))
    have pr : IsPair g9 g6.objs.size x y := sb9.extBut _ _ (Nat.ne_of_gt lz) (sb8.extBut _ _ (Nat.ne_of_gt lz) (Heap.get?_push_size _ rfl))
    have sz9 : g9.objs.size = g6.objs.size + 1 := by rw [sb9.1, sb8.1, Heap.size_push]
    refine wpAny_pure ⟨_, rfl, ?_⟩
    show Q (.ref g6.objs.size) _
    rw [sz6] at pr sz9 ⊢
    exact hQ g9 ⟨⟨_, _, hz9, .inr ⟨_, rfl⟩⟩, up _ _ D.TIz (k6 _ _ D.TIz D.TITO D.TIi1 D.TIi2 hTI), ⟨x, y, up _ _ D.TOz TO6⟩, n16.at fun o e => up _ o D.i1z e, n26.at fun o e => up _ o D.i2z e⟩ pr sz9 fun c o c1 c2 c3 c4 e => up c o c1 (k6 c o c1 c2 c3 c4 e)
  | false =>
    simp only [Bool.false_eq_true, if_false, List.forIn_toArray, List.forIn_cons, List.forIn_nil]
    refine wpAny_bind (wpAny_bind (wpAny_bind (wpAny_holding ?_)))
    show wpAny _ _ (Builtin.SmallTypes.nextOf (.ref i1) >>= _) _ _ _
    refine wpAny_bind (RZ.nextOf_tuple_item e1 u1 hx fun g3 n1 sb3 => wpAny_pure (wpAny_pure ?_))
    refine wpAny_bind (wpAny_bind (wpAny_holding ?_))
    show wpAny _ _ (Builtin.SmallTypes.nextOf (.ref i2) >>= _) _ _ _
    refine wpAny_bind (RZ.nextOf_tuple_item (e2.extBut sb3.extBut D.i12.symm) (u2.extBut sb3.extBut D.l2i1) hy fun g5 n2 sb5 => wpAny_pure (wpAny_pure (wpAny_pure ?_)))
    show wpAny _ _ (newTuple [x, y] >>= _) _ _ _
    refine wpAny_bind (wpAny_newTuple (wpAny_pure ⟨_, rfl, ?_⟩))
    have sz5 : g5.objs.size = s.heap.objs.size := by rw [sb5.1, sb3.1, sz0]
    have k5 : ∀ c o, c ≠ z → c ≠ TO → c ≠ i1 → c ≠ i2 → s.heap.get? c = some o → g5.get? c = some o := fun c o c1 c2 c3 c4 e => sb5.extBut _ _ c4 (sb3.extBut _ _ c3 (k0 c o c1 e))
    have hz5 : ZO g5 z TI TO f0 g1 := sb5.extBut _ _ D.i2z.symm (sb3.extBut _ _ D.i1z.symm hz0)
    have TO5 : IsPair g5 TO a b := sb5.extBut _ _ D.TOi2 (sb3.extBut _ _ D.TOi1 TO0)
    have n15 : g5.IsTupleIter i1 l1 (n + 1) := n1.extBut sb5.extBut D.i12
    have up : ∀ c o, g5.get? c = some o → (g5.push { cls := .type "tuple", data := .seq #[x, y] }).get? c = some o := fun c o e => Heap.get?_push_of_some _ e
    have pr : IsPair (g5.push { cls := .type "tuple", data := .seq #[x, y] }) g5.objs.size x y := Heap.get?_push_size _ rfl
    have sz9 : (g5.push { cls := .type "tuple", data := .seq #[x, y] }).objs.size = g5.objs.size + 1 := Heap.size_push ..
    show Q (.ref g5.objs.size) _
    rw [sz5] at pr sz9 ⊢
    exact hQ _ ⟨⟨_, _, up _ _ hz5, hf⟩, up _ _ (k5 _ _ D.TIz D.TITO D.TIi1 D.TIi2 hTI), ⟨a, b, up _ _ TO5⟩, n15.at fun o e => up _ o e, n2.at fun o e => up _ o e⟩ pr sz9 fun c o c1 c2 c3 c4 e => up c o (k5 c o c1 c2 c3 c4 e)
/-- zip's end -/
theorem zn_end {z TI TO i1 i2 l1 l2 : Addr} {n : Nat} {xs ys : Array Value} {Q : Fin → Shared → Prop} (hh : A.handled = none) (D : ZipApart z TI TO i1 i2 l1 l2) (S : ZS s.heap z TI TO i1 i2 l1 l2 n) (t1 : s.heap.IsTuple l1 xs) (t2 : s.heap.IsTuple l2 ys) (hend : xs[n]? = none ∨ ys[n]? = none)
    (hE : ∀ h' e, (∀ c o, c ≠ z → c ≠ TO → c ≠ i1 → c ≠ i2 → s.heap.get? c = some o → h'.get? c = some o) → (∃ o, h'.get? e = some o ∧ o.cls = .type "StopIteration") → E (.ref e) { s with heap := h' }) :
    wpAny (model prog w) A (Builtin.«zip.__next__» ⟨[.ref z], []⟩) Q E s := by
  obtain ⟨⟨f0, f1, hz, hf⟩, hTI, ⟨a, b, hTO⟩, h1, h2⟩ := S
  show wpAny _ _ (field (.ref z) 2 >>= _) _ _ _
  refine wpAny_bind (wpAny_field hz rfl (x := .bool false) rfl ?_)
  show wpAny _ _ (field (.ref z) 3 >>= _) _ _ _
  refine wpAny_bind (wpAny_field hz rfl (x := .ref TI) rfl ?_)
  refine wpAny_bind (wpAny_seqItems hTI rfl ?_)
  show wpAny _ _ (Builtin.SmallTypes.ownedTupleIsFree (.ref z) >>= _) _ _ _
  refine wpAny_bind (zfree hz hf fun own g0 g1 hz0 sb0 => ?_)
  have k0 : ∀ c o, c ≠ z → s.heap.get? c = some o → g0.get? c = some o := fun c o hc e => sb0.extBut _ _ hc e
  have TO0 : IsPair g0 TO a b := k0 _ _ D.TOz hTO
  have e1 : g0.IsTupleIter i1 l1 n := h1.extBut sb0.extBut D.i1z
  have e2 : g0.IsTupleIter i2 l2 n := h2.extBut sb0.extBut D.i2z
  have u1 : g0.IsTuple l1 xs := t1.extBut sb0.extBut D.l1z
  have u2 : g0.IsTuple l2 ys := t2.extBut sb0.extBut D.l2z
  cases own with
  | true =>
    simp only [if_true]
    refine wpAny_bind (wpAny_rule (wpAny_bind (wpAny_field hz0 rfl (x := .ref TO) rfl ?_)))
    refine wpAny_bind (wpAny_setField_rec hz0 (by simp) fun g2 hz2 sb2 => ?_)
    have hz2 : ZO g2 z TI TO .ellipsis g1 := hz2
    have k2 : ∀ c o, c ≠ z → s.heap.get? c = some o → g2.get? c = some o := fun c o hc e => sb2.extBut _ _ hc (k0 c o hc e)
    refine wpAny_bind ?_
    simp only [List.zipIdx_cons, List.zipIdx_nil, List.forIn_cons, List.forIn_nil]
    refine wpAny_bind (wpAny_bind (wpAny_onRaise ?_))
    show wpAny _ _ (Builtin.SmallTypes.nextOf (.ref i1) >>= _) _ _ _
    cases hx : xs[n]? with
    | none =>
      refine wpAny_bind (RZ.nextOf_tuple_end hh (e1.extBut sb2.extBut D.i1z) (u1.extBut sb2.extBut D.l1z) hx fun g3 ex sb3 st => ?_)
      obtain ⟨oe, he, ce⟩ := st
      have hz3 : ZO g3 z TI TO .ellipsis g1 := sb3 _ _ D.i1z.symm hz2
      have ez : ex ≠ z := fun q => by
        rw [q, hz3] at he
        cases he
        exact absurd (show Value.type "zip" = Value.type "StopIteration" from ce) (by decide)
      exact wpAny_setField_rec hz3 (by simp) fun g4 _ sb4 => hE g4 ex (fun c o c1 _ c3 _ e => sb4.extBut _ _ c1 (sb3 _ _ c3 (k2 c o c1 e))) ⟨oe, sb4.extBut _ _ ez he, ce⟩
    | some x =>
      have hy : ys[n]? = none := hend.resolve_left (by rw [hx]; simp)
      refine wpAny_bind (RZ.nextOf_tuple_item (e1.extBut sb2.extBut D.i1z) (u1.extBut sb2.extBut D.l1z) hx fun g3 n1 sb3 => wpAny_pure ?_)
      have TO3 : IsPair g3 TO a b := sb3.extBut _ _ D.TOi1 (sb2.extBut _ _ D.TOz TO0)
      refine wpAny_bind (wpAny_seqItems TO3 rfl (wpAny_bind (wpAny_updateSeq_pair TO3 fun g4 TO4 sb4 => ?_)))
      refine wpAny_bind (wpAny_letGo (wpAny_pure ?_))
      refine wpAny_bind (wpAny_bind (wpAny_onRaise ?_))
      show wpAny _ _ (Builtin.SmallTypes.nextOf (.ref i2) >>= _) _ _ _
      refine wpAny_bind (RZ.nextOf_tuple_end hh (((e2.extBut sb2.extBut D.i2z).extBut sb3.extBut D.i12.symm).extBut sb4.extBut D.TOi2.symm) (((u2.extBut sb2.extBut D.l2z).extBut sb3.extBut D.l2i1).extBut sb4.extBut D.l2TO) hy fun g5 ex sb5 st => ?_)
      obtain ⟨oe, he, ce⟩ := st
      have hz5 : ZO g5 z TI TO .ellipsis g1 := sb5 _ _ D.i2z.symm (sb4.extBut _ _ D.TOz.symm (sb3.extBut _ _ D.i1z.symm hz2))
      have ez : ex ≠ z := fun q => by
        rw [q, hz5] at he
        cases he
        exact absurd (show Value.type "zip" = Value.type "StopIteration" from ce) (by decide)
      exact wpAny_setField_rec hz5 (by simp) fun g6 _ sb6 => hE g6 ex (fun c o c1 c2 c3 c4 e => sb6.extBut _ _ c1 (sb5 _ _ c4 (sb4.extBut _ _ c2 (sb3.extBut _ _ c3 (k2 c o c1 e))))) ⟨oe, sb6.extBut _ _ ez he, ce⟩
  | false =>
    simp only [Bool.false_eq_true, if_false, List.forIn_toArray, List.forIn_cons, List.forIn_nil]
    refine wpAny_bind (wpAny_bind (wpAny_bind (wpAny_holding ?_)))
    show wpAny _ _ (Builtin.SmallTypes.nextOf (.ref i1) >>= _) _ _ _
    cases hx : xs[n]? with
    | none => exact wpAny_bind (RZ.nextOf_tuple_end hh e1 u1 hx fun g3 ex sb3 st => hE g3 ex (fun c o c1 _ c3 _ e => sb3 _ _ c3 (k0 c o c1 e)) st)
    | some x =>
      have hy : ys[n]? = none := hend.resolve_left (by rw [hx]; simp)
      refine wpAny_bind (RZ.nextOf_tuple_item e1 u1 hx fun g3 n1 sb3 => wpAny_pure (wpAny_pure ?_))
      refine wpAny_bind (wpAny_bind (wpAny_holding ?_))
      show wpAny _ _ (Builtin.SmallTypes.nextOf (.ref i2) >>= _) _ _ _
      exact wpAny_bind (RZ.nextOf_tuple_end hh (e2.extBut sb3.extBut D.i12.symm) (u2.extBut sb3.extBut D.l2i1) hy fun g5 ex sb5 st => hE g5 ex (fun c o c1 _ c3 c4 e => sb5 _ _ c4 (sb3.extBut _ _ c3 (k0 c o c1 e))) st)
/-- the same as next(..) -/
theorem zn_nextOf {z TI TO i1 i2 l1 l2 : Addr} {n : Nat} {xs ys : Array Value} {x y : Value} {Q : Value → Shared → Prop} (D : ZipApart z TI TO i1 i2 l1 l2) (S : ZS s.heap z TI TO i1 i2 l1 l2 n) (t1 : s.heap.IsTuple l1 xs) (t2 : s.heap.IsTuple l2 ys) (hx : xs[n]? = some x) (hy : ys[n]? = some y)
    (hQ : ∀ h', ZS h' z TI TO i1 i2 l1 l2 (n + 1) → IsPair h' s.heap.objs.size x y → h'.objs.size = s.heap.objs.size + 1 → (∀ c o, c ≠ z → c ≠ TO → c ≠ i1 → c ≠ i2 → s.heap.get? c = some o → h'.get? c = some o) → Q (.ref s.heap.objs.size) { s with heap := h' }) :
    wpAny (model prog w) A (Builtin.SmallTypes.nextOf (.ref z)) Q E s := by
  obtain ⟨f0, f1, hz, hf⟩ := id S.z
  have hT : s.TypeIs (.ref z) "zip" := ⟨_, hz, rfl⟩
  unfold Builtin.SmallTypes.nextOf
  exact wpAny_bind (wpAny_callSpecial?_slot (name := Str.ofString "__next__") hT F.slot_zip_next (wpAny_call_entry F.slot_zip_next hT F.entry_zip_next
    (zn_item D S t1 t2 hx hy fun h' a1 a2 a3 a4 => wpAny_pure (hQ h' a1 a2 a3 a4)) (F.args_zip_next_1 _)))
theorem zn_endOf {z TI TO i1 i2 l1 l2 : Addr} {n : Nat} {xs ys : Array Value} {Q : Value → Shared → Prop} (hh : A.handled = none) (D : ZipApart z TI TO i1 i2 l1 l2) (S : ZS s.heap z TI TO i1 i2 l1 l2 n) (t1 : s.heap.IsTuple l1 xs) (t2 : s.heap.IsTuple l2 ys) (hend : xs[n]? = none ∨ ys[n]? = none)
    (hE : ∀ h' e, (∀ c o, c ≠ z → c ≠ TO → c ≠ i1 → c ≠ i2 → s.heap.get? c = some o → h'.get? c = some o) → (∃ o, h'.get? e = some o ∧ o.cls = .type "StopIteration") → E (.ref e) { s with heap := h' }) :
    wpAny (model prog w) A (Builtin.SmallTypes.nextOf (.ref z)) Q E s := by
  obtain ⟨f0, f1, hz, hf⟩ := id S.z
  have hT : s.TypeIs (.ref z) "zip" := ⟨_, hz, rfl⟩
  unfold Builtin.SmallTypes.nextOf
  exact wpAny_bind (wpAny_callSpecial?_slot (name := Str.ofString "__next__") hT F.slot_zip_next (wpAny_call_entry F.slot_zip_next hT F.entry_zip_next (zn_end hh D S t1 t2 hend hE) (F.args_zip_next_1 _)))
/-- a turn of enumerate over zip -/
theorem en_item {e z TI TO i1 i2 l1 l2 : Addr} {n : Nat} {xs ys : Array Value} {x y old : Value} {Q : Option Value → Shared → Prop} (D : ZipApart z TI TO i1 i2 l1 l2) (S : ZS s.heap z TI TO i1 i2 l1 l2 n) (he : IsEnum s.heap e z n old) (ne : e ≠ z ∧ e ≠ TI ∧ e ≠ TO ∧ e ≠ i1 ∧ e ≠ i2)
    (t1 : s.heap.IsTuple l1 xs) (t2 : s.heap.IsTuple l2 ys) (hx : xs[n]? = some x) (hy : ys[n]? = some y)
    (hQ : ∀ h' tk, IsEnumOut h' e z ((n : Int) + 1) (.ref s.heap.objs.size) (s.heap.objs.size + 1) → ZS h' z TI TO i1 i2 l1 l2 (n + 1) → IsPair h' s.heap.objs.size x y → h'.get? (s.heap.objs.size + 1) = some { cls := .type "tuple", data := .seq #[.int n tk, .ref s.heap.objs.size] } →
      (∀ c o, c ≠ e → c ≠ z → c ≠ TO → c ≠ i1 → c ≠ i2 → s.heap.get? c = some o → h'.get? c = some o) → Q (some (.ref (s.heap.objs.size + 1))) { s with heap := h', toks := tk + 1 }) :
    wpAny (model prog w) A (pyNext (.ref e)) Q E s := by
  obtain ⟨hp, g, d, tk, os⟩ := s
  have hT : Shared.TypeIs ⟨hp, g, d, tk, os⟩ (.ref e) "enumerate" := ⟨_, he, rfl⟩
  unfold pyNext
  refine wpAny_bind (wpAny_attempt (wpAny_callSpecial?_slot (name := Str.ofString "__next__") hT F.slot_enumerate_next (wpAny_call_entry F.slot_enumerate_next hT F.entry_enumerate_next ?_ (F.args_enumerate_next_1 _))))
  show wpAny _ _ (field (.ref e) 2 >>= _) _ _ _
  refine wpAny_bind (wpAny_field he rfl (x := .ref z) rfl ?_)
  refine wpAny_bind (zn_nextOf D S t1 t2 hx hy fun g1 S1 p1 sz1 k1 => ?_)
  have he1 : IsEnum g1 e z n old := k1 _ _ ne.1 ne.2.2.1 ne.2.2.2.1 ne.2.2.2.2 he
  show wpAny _ _ (field (.ref e) 3 >>= _) _ _ ⟨g1, g, d, tk, os⟩
  refine wpAny_bind (wpAny_field he1 rfl (x := rawInt n) rfl ?_)
  show wpAny _ _ (field (.ref e) 4 >>= _) _ _ ⟨g1, g, d, tk, os⟩
  refine wpAny_bind (wpAny_field he1 rfl (x := .none) rfl ?_)
  show wpAny _ _ (mkInt n >>= _) _ _ ⟨g1, g, d, tk, os⟩
  refine wpAny_bind (wpAny_mkInt ?_)
  show wpAny _ _ (setField (.ref e) 3 (rawInt ((n : Int) + 1)) >>= _) _ _ ⟨g1, g, d, tk + 1, os⟩
  refine wpAny_bind (wpAny_setField_rec he1 (by simp) fun g2 he2 sb2 => ?_)
  have he2 : IsEnum g2 e z ((n : Int) + 1) old := he2
  show wpAny _ _ (setField (.ref e) 4 .none >>= _) _ _ ⟨g2, g, d, tk + 1, os⟩
  refine wpAny_bind (wpAny_setField_rec he2 (by simp) fun g3 he3 sb3 => ?_)
  have he3 : IsEnum g3 e z ((n : Int) + 1) old := he3
  have sz3 : g3.objs.size = hp.objs.size + 1 := by rw [sb3.1, sb2.1, sz1]
  show wpAny _ _ (newTuple [.int n tk, .ref hp.objs.size] >>= _) _ _ ⟨g3, g, d, tk + 1, os⟩
  refine wpAny_bind (wpAny_newTuple ?_)
  have he4 : IsEnum (g3.push { cls := .type "tuple", data := .seq #[.int n tk, .ref hp.objs.size] }) e z ((n : Int) + 1) old := Heap.get?_push_of_some _ he3
  have nw4 : (g3.push { cls := .type "tuple", data := .seq #[.int n tk, .ref hp.objs.size] }).get? (hp.objs.size + 1) = some { cls := .type "tuple", data := .seq #[.int n tk, .ref hp.objs.size] } := by
    rw [← sz3]
    exact Heap.get?_push_size _ rfl
  have up4 : ∀ c o, c ≠ e → g1.get? c = some o → (g3.push { cls := .type "tuple", data := .seq #[.int n tk, .ref hp.objs.size] }).get? c = some o := fun c o hc q => Heap.get?_push_of_some _ (sb3.extBut _ _ hc (sb2.extBut _ _ hc q))
  show wpAny _ _ (Builtin.SmallTypes.ownedTupleIsFree (.ref e) >>= _) _ _ _
  rw [sz3]
  refine wpAny_bind ?_
  unfold Builtin.SmallTypes.ownedTupleIsFree
  refine wpAny_bind (wpAny_field he4 rfl (x := .none) rfl (wpAny_pure ?_))
  simp only [if_true]
  refine wpAny_bind (wpAny_rule (wpAny_bind (wpAny_field he4 rfl (x := old) rfl ?_)))
  refine wpAny_bind (wpAny_setField_rec he4 (by simp) fun g5 he5 sb5 => ?_)
  refine wpAny_bind ?_
  unfold Builtin.SmallTypes.ownedTupleHandOut
  refine wpAny_bind (wpAny_setField_rec he5 (by simp) fun g6 he6 sb6 => ?_)
  refine wpAny_setField_rec he6 (by simp) fun g7 he7 sb7 => ?_
  have he7 : IsEnumOut g7 e z ((n : Int) + 1) (.ref hp.objs.size) (hp.objs.size + 1) := he7
  have up7 : ∀ c o, c ≠ e → g1.get? c = some o → g7.get? c = some o := fun c o hc q => sb7.extBut _ _ hc (sb6.extBut _ _ hc (sb5.extBut _ _ hc (up4 c o hc q)))
  have ee : e < hp.objs.size := Heap.lt_size he
  have nw7 : g7.get? (hp.objs.size + 1) = some { cls := .type "tuple", data := .seq #[.int n tk, .ref hp.objs.size] } := by
    have hne : hp.objs.size + 1 ≠ e := Nat.ne_of_gt (Nat.lt_succ_of_lt ee)
    exact sb7.extBut _ _ hne (sb6.extBut _ _ hne (sb5.extBut _ _ hne nw4))
  refine wpAny_bind (wpAny_letGo (wpAny_pure ⟨_, rfl, ?_⟩))
  refine wpAny_pure (hQ g7 tk he7 ⟨?_, up7 _ _ ne.2.1.symm S1.ti, ?_, S1.one.at fun o q => up7 _ o ne.2.2.2.1.symm q, S1.two.at fun o q => up7 _ o ne.2.2.2.2.symm q⟩ (up7 _ _ (Nat.ne_of_gt ee) p1) nw7 fun c o c1 c2 c3 c4 c5 q => up7 c o c1 (k1 c o c2 c3 c4 c5 q))
  · obtain ⟨f0, f1, q, r⟩ := S1.z
    exact ⟨f0, f1, up7 _ _ ne.1.symm q, r⟩
  · obtain ⟨a, b, q⟩ := S1.to
    exact ⟨a, b, up7 _ _ ne.2.2.1.symm q⟩
end
end MI
end
section
set_option maxHeartbeats 1000000
/-! M3: .. as a loop's walk. -/
namespace MI
open PySem PySem.Spec PyProof.Rows L2
open PySem.Sem (wp)
section
variable {prog : Program} {w : World} {A : Around} {E : Value → Shared → Prop} {s : Shared}
theorem en_end {e z TI TO i1 i2 l1 l2 : Addr} {n : Nat} {i : Int} {xs ys : Array Value} {old : Value} {Q : Option Value → Shared → Prop} (hh : A.in1.handled = none) (D : ZipApart z TI TO i1 i2 l1 l2) (S : ZS s.heap z TI TO i1 i2 l1 l2 n) (he : IsEnum s.heap e z i old)
    (t1 : s.heap.IsTuple l1 xs) (t2 : s.heap.IsTuple l2 ys) (hend : xs[n]? = none ∨ ys[n]? = none)
    (hQ : ∀ h', (∀ c o, c ≠ z → c ≠ TO → c ≠ i1 → c ≠ i2 → s.heap.get? c = some o → h'.get? c = some o) → Q none { s with heap := h' }) : wpAny (model prog w) A (pyNext (.ref e)) Q E s := by
  have hT : s.TypeIs (.ref e) "enumerate" := ⟨_, he, rfl⟩
  unfold pyNext
  refine wpAny_bind (wpAny_attempt (wpAny_callSpecial?_slot (name := Str.ofString "__next__") hT F.slot_enumerate_next (wpAny_call_entry F.slot_enumerate_next hT F.entry_enumerate_next ?_ (F.args_enumerate_next_1 _))))
  show wpAny _ _ (field (.ref e) 2 >>= _) _ _ _
  refine wpAny_bind (wpAny_field he rfl (x := .ref z) rfl ?_)
  refine wpAny_bind (zn_endOf hh D S t1 t2 hend fun h' x k st => ?_)
  obtain ⟨o, ho, hc⟩ := st
  refine wpAny_bind (wpAny_isInstance (T := "StopIteration") (b := true) ⟨o, ho, hc⟩ isSubtype_stop ?_)
  exact wpAny_pure (hQ _ k)
end
/-- two new objects are laid while an iterator turns -/
theorem turned2 {X : Cx} {pins : List (Addr × Obj)} {σ : Sg} {H : Hp} {s : Shared} {h' : Heap} {t' : Nat} {ch : List Addr} {T1 T2 : Addr} {o1 o2 : HO} (I : Inv X pins σ H s) (k : ∀ b o, b ∉ ch → s.heap.get? b = some o → h'.get? b = some o) (hf : ∀ b ∈ ch, FpOk X pins H b)
    (h1 : s.heap.objs.size ≤ T1) (h2 : s.heap.objs.size ≤ T2) (h12 : T1 ≠ T2) (n1 : ObjOk X.prog X.w (upd (upd H T1 o1) T2 o2) h' T1 o1) (n2 : ObjOk X.prog X.w (upd (upd H T1 o1) T2 o2) h' T2 o2) :
    Inv X pins σ (upd (upd H T1 o1) T2 o2) { s with heap := h', toks := t' } := by
  have f1 : H T1 = none := I.hok.fresh h1
  have f2 : H T2 = none := I.hok.fresh h2
  have old : ∀ b, b ≠ T1 → b ≠ T2 → upd (upd H T1 o1) T2 o2 b = H b := fun b q1 q2 => by rw [upd_ne q2, upd_ne q1]
  have live : ∀ b u, H b = some u → upd (upd H T1 o1) T2 o2 b = some u := fun b u e => by rw [old b (ne_of_none e f1) (ne_of_none e f2)]; exact e
  have out : ∀ b u, H b = some u → b ∉ ch := fun b u e z => by
    have q := (hf b z).1
    rw [q] at e
    cases e
  have lt : ∀ b o, s.heap.get? b = some o → b ≠ T1 ∧ b ≠ T2 := fun b o e => ⟨Nat.ne_of_lt (Nat.lt_of_lt_of_le (Heap.lt_size e) h1), Nat.ne_of_lt (Nat.lt_of_lt_of_le (Heap.lt_size e) h2)⟩
  refine I.step (g' := s.gens) (d' := s.drawn) (ch := ch) (fun b hb => ⟨(hf b hb).2.2.2.1, (hf b hb).2.1, (hf b hb).2.2.2.2.1, (hf b hb).2.2.2.2.2⟩) (fun b o _ _ hc e _ => k b o hc e) (fun b o _ _ hc e _ => ⟨o.slots, k b o hc e⟩)
    (fun b o _ e n => by rw [old b (lt b o e).1 (lt b o e).2]; exact n) (fun b o hc e => ⟨o, k b o hc e⟩) (fun b xs e => live b _ e) (fun b o u e => live b _ e) (fun b ps e => ⟨#[], by rw [live b _ e]; simp⟩) (fun m hm => ?_) (fun b u e => ?_) I.bare
  · obtain ⟨o, es, ep, ho, r⟩ := hm
    exact ⟨o, es, ep, k _ o (fun z => (hf _ z).2.1 rfl) ho, r⟩
  · by_cases q2 : b = T2
    · subst q2
      rw [upd_same] at e
      cases e
      exact n2
    · rw [upd_ne q2] at e
      by_cases q1 : b = T1
      · subst q1
        rw [upd_same] at e
        cases e
        exact n1
      · rw [upd_ne q1] at e
        refine (I.hok b u e).stay (fun c v hc q => k c v ?_ q) (fun c q => live c _ q) fun c xs q => live c _ q
        rcases hc with z | z
        · rw [z]
          exact out b u e
        · exact out c _ z
def Ietz (K : PySem.W.Frag) (a b : Addr) : L2.It :=
  ⟨fun i H => ∃ (xs ys : List V) (x y : V), SqT K H a xs ∧ SqT K H b ys ∧ xs[i]? = some x ∧ ys[i]? = some y,
    fun i H v H' => ∃ T1 T2 x y, v = .ref T2 ∧ T1 ≠ T2 ∧ H T1 = none ∧ H T2 = none ∧ H' = upd (upd H T1 (.tup [x, y])) T2 (.tup [.int (i : Nat), .ref T1]) ∧ (∀ xs, SqT K H a xs → xs[i]? = some x) ∧ ∀ ys, SqT K H b ys → ys[i]? = some y,
    fun i H => ∃ xs ys : List V, SqT K H a xs ∧ SqT K H b ys ∧ (xs.length ≤ i ∨ ys.length ≤ i)⟩
theorem turn_ez {P : Program} {w : World} {K : PySem.W.Frag} {elts : List Expr} {kk : Nat} {tp : Pos} {a b e z TI TO i1 i2 : Addr} (D : ZipApart z TI TO i1 i2 a b) (ne : e ≠ z ∧ e ≠ TI ∧ e ≠ TO ∧ e ≠ i1 ∧ e ≠ i2) (na : e ≠ a ∧ e ≠ b) :
    Turn P w K (.Tuple elts kk tp) (Ietz K a b) [e, z, TI, TO, i1, i2] e (fun i h => (∃ old, IsEnum h e z ((i : Nat) : Int) old) ∧ ZS h z TI TO i1 i2 a b i) where
  mem := List.mem_cons_self
  obj := fun i h st c hc => by
    obtain ⟨⟨old, he⟩, S⟩ := st
    obtain ⟨f0, f1, hz, _⟩ := S.z
    obtain ⟨p, q, ho⟩ := S.to
    obtain ⟨o1, a1, _, a3⟩ := S.one
    obtain ⟨o2, b1, _, b3⟩ := S.two
    have hc : c = e ∨ c = z ∨ c = TI ∨ c = TO ∨ c = i1 ∨ c = i2 := by simpa using hc
    rcases hc with rfl | rfl | rfl | rfl | rfl | rfl
    · exact ⟨_, he, fun v q => nomatch q⟩
    · exact ⟨_, hz, fun v q => nomatch q⟩
    · exact ⟨_, S.ti, fun v q => nomatch q⟩
    · exact ⟨_, ho, fun v q => nomatch q⟩
    · exact ⟨o1, a1, fun v q => nomatch a3.symm.trans q⟩
    · exact ⟨o2, b1, fun v q => nomatch b3.symm.trans q⟩
  keep := fun i h h' st k => by
    obtain ⟨⟨old, he⟩, S⟩ := st
    obtain ⟨f0, f1, hz, zf⟩ := S.z
    obtain ⟨p, q, ho⟩ := S.to
    exact ⟨⟨old, k e (by simp) _ he⟩, ⟨f0, f1, k z (by simp) _ hz, zf⟩, k TI (by simp) _ S.ti, ⟨p, q, k TO (by simp) _ ho⟩, S.one.at fun o q => k i1 (by simp) o q, S.two.at fun o q => k i2 (by simp) o q⟩
  item := by
    rintro X rfl rfl rfl hc i pins s σ H E I hf ⟨⟨old, he⟩, S⟩ ⟨xs, ys, x, y, hqx, hqy, hx, hy⟩
    obtain ⟨its, rv, p, _⟩ := I.tuple hqx
    obtain ⟨its2, rv2, p2, _⟩ := I.tuple hqy
    obtain ⟨u, hu, ru⟩ := rv.get hx
    obtain ⟨u2, hu2, ru2⟩ := rv2.get hy
    have le : e < s.heap.objs.size := Heap.lt_size he
    refine en_item D S he ne (show s.heap.IsTuple a its.toArray from p) (show s.heap.IsTuple b its2.toArray from p2) (x := u) (y := u2) (by simpa using hu) (by simpa using hu2) fun h' tk ho S' pr nw hk => ?_
    refine ⟨_, rfl, wpAny_letOwnedTupleGo_enum (s := { s with heap := h', toks := tk + 1 }) ho fun h'' he' sb => ?_⟩
    have g1 : h''.get? s.heap.objs.size = some { cls := .type "tuple", data := .seq #[u, u2] } := (sb.2 _ (Nat.ne_of_gt le)).trans pr
    have g2 : h''.get? (s.heap.objs.size + 1) = some { cls := .type "tuple", data := .seq #[.int i tk, .ref s.heap.objs.size] } := (sb.2 _ (Nat.ne_of_gt (Nat.lt_succ_of_lt le))).trans nw
    have I1 : Inv X pins σ (upd (upd H s.heap.objs.size (.tup [x, y])) (s.heap.objs.size + 1) (.tup [.int (i : Nat), .ref s.heap.objs.size])) { s with heap := h'', toks := tk + 1 } :=
      turned2 (ch := [e, z, TI, TO, i1, i2]) I (fun c o hb q => (sb.2 c (fun z => hb (by simp [z]))).trans (hk c o (fun z => hb (by simp [z])) (fun z => hb (by simp [z])) (fun z => hb (by simp [z])) (fun z => hb (by simp [z])) (fun z => hb (by simp [z])) q)) hf (Nat.le_refl _) (Nat.le_succ _) (Nat.ne_of_lt (Nat.lt_succ_self _))
        ⟨by show 2 ≤ sizeLine; decide, [u, u2], .cons ru (.cons ru2 .nil), ⟨_, g1, rfl, _, rfl⟩⟩ ⟨by show 2 ≤ sizeLine; decide, [.int i tk, .ref s.heap.objs.size], .cons ⟨_, rfl⟩ (.cons rfl .nil), ⟨_, g2, rfl, _, rfl⟩⟩
    have S2 : ZS h'' z TI TO i1 i2 a b (i + 1) := by
      obtain ⟨f0, f1, q, r⟩ := S'.z
      obtain ⟨p, p', q'⟩ := S'.to
      exact ⟨⟨f0, f1, (sb.2 _ ne.1.symm).trans q, r⟩, (sb.2 _ ne.2.1.symm).trans S'.ti, ⟨p, p', (sb.2 _ ne.2.2.1.symm).trans q'⟩, S'.one.at fun o q => (sb.2 _ ne.2.2.2.1.symm).trans q, S'.two.at fun o q => (sb.2 _ ne.2.2.2.2.symm).trans q⟩
    refine ⟨.ref (s.heap.objs.size + 1), _, I1, rfl, ⟨s.heap.objs.size, _, x, y, rfl, Nat.ne_of_lt (Nat.lt_succ_self _), I.hok.fresh (Nat.le_refl _), I.hok.fresh (Nat.le_succ _), rfl, fun l hl => by rw [I.tuple_inj hl hqx]; exact hx, fun l hl => by rw [I.tuple_inj hl hqy]; exact hy⟩, ⟨⟨Value.ref s.heap.objs.size, ?_⟩, S2⟩, fun c hcm => ?_⟩
    · have e1 : ((i + 1 : Nat) : Int) = (i : Int) + 1 := by omega
      rw [e1]
      exact he'
    · have lt : c < s.heap.objs.size := by
        obtain ⟨f0, f1, hz, _⟩ := S.z
        obtain ⟨p, q, ho⟩ := S.to
        obtain ⟨o1, a1, _⟩ := S.one
        obtain ⟨o2, b1, _⟩ := S.two
        have hcm : c = e ∨ c = z ∨ c = TI ∨ c = TO ∨ c = i1 ∨ c = i2 := by simpa using hcm
        rcases hcm with rfl | rfl | rfl | rfl | rfl | rfl
        · exact le
        · exact Heap.lt_size hz
        · exact Heap.lt_size S.ti
        · exact Heap.lt_size ho
        · exact Heap.lt_size a1
        · exact Heap.lt_size b1
      rw [upd_ne (Nat.ne_of_lt (Nat.lt_succ_of_lt lt)), upd_ne (Nat.ne_of_lt lt)]
      exact (hf c hcm).1
  done := by
    rintro X rfl rfl rfl hc i pins s σ H E I hf ⟨⟨old, he⟩, S⟩ ⟨xs, ys, hqx, hqy, hend⟩
    obtain ⟨its, rv, p, _⟩ := I.tuple hqx
    obtain ⟨its2, rv2, p2, _⟩ := I.tuple hqy
    have l1 := rv.length
    have l2 := rv2.length
    have hn : its.toArray[i]? = none ∨ its2.toArray[i]? = none := hend.imp (fun q => by simp; omega) fun q => by simp; omega
    have hh : X.A.in1.handled = none := I.ok.hd hc
    exact en_end hh D S he (show s.heap.IsTuple a its.toArray from p) (show s.heap.IsTuple b its2.toArray from p2) hn fun h' hk => ⟨rfl, I.turnedL (t' := s.toks) (ch := [e, z, TI, TO, i1, i2]) (fun c o hb q =>
      hk c o (fun q' => hb (by simp [q'])) (fun q' => hb (by simp [q'])) (fun q' => hb (by simp [q'])) (fun q' => hb (by simp [q'])) q) hf⟩
  self := fun A i s Q E ⟨⟨_, he⟩, _⟩ h => wpAny_pyIter_enum he h
/-- enumerate(zip(x, y)) of tuples -/
def iEz (K : PySem.W.Frag) (ta : TA) : TI := fun σ H R => ta σ H fun vs H1 => ∃ a b xs ys, vs = [.ref a, .ref b] ∧ SqT K H1 a xs ∧ SqT K H1 b ys ∧ R (Ietz K a b) H1
theorem enumZ_new (z : Addr) (TI TO : Addr) :
    Meets (Builtin.«enumerate.__new__» ⟨[.type "enumerate", .ref z], []⟩) (fun _ R s => IsZip s.heap z TI TO .none ∧ R (.ok (.ret (.ref s.heap.objs.size)))
      { s with heap := s.heap.push { cls := .type "enumerate", data := .fields #[.none, .bool false, .ref z, rawInt 0, .none, .none] } }) :=
  .of_wp fun prog w A R s h => by
    obtain ⟨hp, g, d, tk, os⟩ := s
    obtain ⟨h1, h⟩ := h
    have hsub := sub_enumerate
    have go : ∀ {A' : Around} {E Q : Value → Shared → Prop}, Q (.ref z) ⟨hp, g, d, tk, os⟩ → wpAny (model prog w) A' (pyIter (.ref z)) Q E ⟨hp, g, d, tk, os⟩ :=
      fun q => wpAny_pyIter_zip (s := ⟨hp, g, d, tk, os⟩) h1 q
    wp_walk using go
    refine wpAny_stack_any fun st => wpAny_pure ?_
    split
    · rename_i c _ _ _ _ _
      cases (c == Value.type "enumerate") <;> (wp_walk using go; exact ⟨_, rfl, h⟩)
    · wp_walk using go
      exact ⟨_, rfl, h⟩
theorem enumZ_call {prog : Program} {w : World} {A : Around} {E : Value → Shared → Prop} {s : Shared} {z TI TO : Addr} {Q : Value → Shared → Prop} (hz : IsZip s.heap z TI TO .none)
    (h : ∀ h', IsEnum h' s.heap.objs.size z 0 .none → (∀ b u, s.heap.get? b = some u → h'.get? b = some u) → Q (.ref s.heap.objs.size) { s with heap := h' }) : wpAny (model prog w) A (call (.type "enumerate") [.ref z]) Q E s := by
  refine callType_new F.called_enumerate (by decide) (F.typeCall_enumerate_1 _) (F.newCall_enumerate_1 _) (fun obj => F.args_object_init_2 obj _) F.entry_enumerate_new (enumZ_new z TI TO) ⟨hz, ?_⟩
  have he : IsEnum (s.heap.push { cls := .type "enumerate", data := .fields #[.none, .bool false, .ref z, rawInt 0, .none, .none] }) s.heap.objs.size z 0 .none := Heap.get?_push_size s.heap rfl
  exact ⟨⟨_, he, rfl⟩, h _ he fun b u x => Heap.get?_push_of_some _ x⟩
theorem pi_ez {X : Cx} {x y : Expr} {ta : TA} {p p2 p3 pos tp : Pos} {elts : List Expr} {kk : Nat} (B : Blt X "enumerate" (.type "enumerate")) (Z : Blt X "zip" (.type "zip")) (ha : PA X [x, y] ta) (hs : noStar [x, y] = true) :
    PI X (.Tuple elts kk tp) (.Call (.Name "enumerate" p) [.Call (.Name "zip" p2) [x, y] [] p3] [] pos) (iEz X.K ta) := by
  refine ⟨fun pins s σ H R I h => ?_⟩
  refine Call_ (ld_blt I B.gl B.free B.boot (PyProof.Rows.callWith_type1 (PyProof.Rows.args_cons ?_ rfl) rfl rfl))
  refine Call_ (ld_blt I Z.gl Z.free Z.boot (PyProof.Rows.callWith_type1 (thn (ha.run p3 pins s σ H _ I h) fun us s1 z => ?_) (star_cons hs) (star_plain (noStar_tail hs))))
  obtain ⟨vs, H1, I1, r1, a, b, xs, ys, rfl, hqx, hqy, q⟩ := z
  obtain ⟨u1, u2, rfl, r1, r2⟩ := Vals.two r1
  cases r1
  cases r2
  obtain ⟨its, rv, p1, _⟩ := I1.tuple hqx
  obtain ⟨its2, rv2, p2', _⟩ := I1.tuple hqy
  have la : a < s1.heap.objs.size := by
    obtain ⟨o1, ho1, _⟩ := id p1
    exact Heap.lt_size ho1
  have lb : b < s1.heap.objs.size := by
    obtain ⟨o1, ho1, _⟩ := id p2'
    exact Heap.lt_size ho1
  refine RZ.call_zipT (show s1.heap.IsTuple a its.toArray from p1) (show s1.heap.IsTuple b its2.toArray from p2') fun h' hz hTI hTO h1 h2 hsz hk => ?_
  refine PyProof.Rows.args_nil (enumZ_call hz fun h2' he hk2 => wpAny_pyIter_enum he ?_)
  have sz : h'.objs.size = s1.heap.objs.size + 5 := hsz
  have I2 : Inv X pins σ H1 { s1 with heap := h2' } := I1.kept (t' := s1.toks) fun c o q => hk2 c o (hk c o q)
  have fresh : ∀ c ∈ [h'.objs.size, s1.heap.objs.size + 4, s1.heap.objs.size + 2, s1.heap.objs.size + 3, s1.heap.objs.size, s1.heap.objs.size + 1], FpOk X pins H1 c := fun c hc => by
    have hle : s1.heap.objs.size ≤ c := by
      rw [sz] at hc
      simp only [List.mem_cons, List.not_mem_nil, or_false] at hc
      rcases hc with rfl | rfl | rfl | rfl | rfl | rfl
      · exact Nat.le_add_right _ _
      · exact Nat.le_add_right _ _
      · exact Nat.le_add_right _ _
      · exact Nat.le_add_right _ _
      · exact Nat.le_refl _
      · exact Nat.le_add_right _ _
    exact I1.fpOk hle (I1.hok.fresh hle)
  refine ⟨h'.objs.size, _, _, _, H1, rfl, I2, turn_ez (PySem.W.ktu_apart s1.heap.objs.size a b la lb) ?_ ?_, ⟨⟨.none, he⟩, ⟨_, _, hk2 _ _ hz, .inl rfl⟩, hk2 _ _ hTI, ⟨_, _, hk2 _ _ hTO⟩, h1.at fun o q => hk2 _ o q, h2.at fun o q => hk2 _ o q⟩, fresh, q⟩
  · rw [sz]
    refine ⟨?_, ?_, ?_, ?_, ?_⟩ <;> (intro q; have q : (s1.heap.objs.size + 5 : Nat) = _ := q; omega)
  · rw [sz]
    exact ⟨Nat.ne_of_gt (Nat.lt_of_lt_of_le la (Nat.le_add_right _ _)), Nat.ne_of_gt (Nat.lt_of_lt_of_le lb (Nat.le_add_right _ _))⟩
section
variable {X : Cx} {rc : Rc} {W : WX} {k : Ct} {a b : Expr} {pos p p2 p3 : Pos}
theorem wk_ez (hK : rc.K = X.K) {as : List Addr} {H : Hp} {p q : Addr} {vs us : List V} {xs ys : List D} (sp : SqT X.K H p vs) (sq : SqT X.K H q us) (rx : RDs rc as H xs vs) (ry : RDs rc as H ys us) (hz : vs.length ≤ sizeLine) : Wk rc as H (enumD 0 (zipD xs ys), []) (Ietz X.K p q) := by
  refine ⟨by rw [enumD_length, zipD_length, rx.length]; omega, ?_⟩
  intro i as1 H1 h1 s1 S1 _
  have sp1 : SqT X.K H1 p vs := hK ▸ s1.kp.sqT (rc := rc) (hK ▸ sp)
  have sq1 : SqT X.K H1 q us := hK ▸ s1.kp.sqT (rc := rc) (hK ▸ sq)
  have rx1 := rx.mono' s1.kp
  have ry1 := ry.mono' s1.kp
  refine ⟨fun d e => ?_, fun hi => ?_⟩
  · obtain ⟨x0, ex0, rfl⟩ := enumD_get e
    obtain ⟨x, y, ex, ey, rfl⟩ := zipD_get ex0
    obtain ⟨v, ev, rv⟩ := rx1.get ex
    obtain ⟨u, eu, ru⟩ := ry1.get ey
    refine ⟨⟨vs, us, v, u, sp1, sq1, ev, eu⟩, fun w H' y => ?_⟩
    obtain ⟨T1, T2, a, b, rfl, ne, f1, f2, rfl, ha, hb⟩ := y
    have ha1 := ha vs sp1
    have hb1 := hb us sq1
    rw [ev] at ha1
    rw [eu] at hb1
    cases ha1
    cases hb1
    obtain ⟨q1, q2, q3, q4⟩ := new_pair S1 rv ru f1
    have f2' : upd H1 T1 (.tup [v, u]) T2 = none := by rw [upd_ne ne.symm]; exact f2
    obtain ⟨w1, w2, w3, w4⟩ := new_pair (d := .int ((0 + i : Nat) : Int)) (x := .int (i : Nat)) q2 (by rw [Nat.zero_add]; simp only [RD]) q3 f2'
    exact ⟨q1.trans w1, w2, w3, fun c o z => w4 c o (q4 c o z)⟩
  · rw [enumD_length, zipD_length, rx.length, ry.length] at hi
    exact ⟨vs, us, sp1, sq1, by omega⟩
theorem i_enumZ {x y : E} {elts : List Expr} {kk : Nat} {tp : Pos} (hK : rc.K = X.K) (B : Blt X "enumerate" (.type "enumerate")) (Z : Blt X "zip" (.type "zip")) (ha : PE X a (tE rc W (evE x k))) (hb : PE X b (tE rc W (evE y k))) (hs : noStar [a, b] = true) :
    PI X (.Tuple elts kk tp) (.Call (.Name "enumerate" p) [.Call (.Name "zip" p2) [a, b] [] p3] [] pos) (tI rc W (evI (.enumZ x y) k)) := by
  have h2 := noStar_tail hs
  refine (PI.bnd (pi_ez B Z (pa_cons ha (pa_cons hb pa_nil (star_cons h2)) (star_cons hs)) hs)).imp ?_
  rintro σ H R ⟨as, env, h, E, S, q⟩
  rw [evI] at q
  refine ⟨as, env, h, E, S, q.bind.imp fun d as1 h1 H1 s1 S1 q1 v rv => ?_⟩
  refine ⟨as1, env, h1, E.mono S s1, S1, q1.bind.imp fun e as2 h2 H2 s2 S2 q2 u ru => ?_⟩
  obtain ⟨w, ew, kR⟩ := q2.ofO S2
  obtain ⟨pr, ep, rfl⟩ := Option.map_eq_some_iff.mp ew
  have rv2 := rv.mono S1 s2
  unfold zipT at ep
  split at ep
  · cases ep
    simp only [RD] at rv2 ru
    obtain ⟨q1, vs, rfl, sq1, rs1⟩ := rv2
    obtain ⟨q2, us, rfl, sq2, rs2⟩ := ru
    exact ⟨q1, q2, vs, us, rfl, hK ▸ sq1, hK ▸ sq2, fun bd => kR _ (wk_ez hK (hK ▸ sq1) (hK ▸ sq2) rs1 rs2 (bd.2 _ _ (hK ▸ sq1)))⟩
  · cases ep
end
end MI
end
section
set_option maxHeartbeats 1000000
/-! M4: a comprehension whose parts may lean on the state at its block's entry. -/
namespace MI
open PySem PySem.Spec PyProof.Rows L2
/-- a block's context as it is entered at s -/
abbrev blkAt (X : Cx) (scope : Scope) (s : Shared) (H : Hp) (fp : List Addr) : Cx :=
  X.blk s H scope (compEnvC scope (cellsFrom (s.heap.objs.size + 1) scope.names (cloFrom X.env.cells scope.names [])) s.heap.objs.size X.env) fp
theorem lc_link {X : Cx} {pins : List (Addr × Obj)} {s : Shared} {σ : Sg} {H : Hp} {Q : VK} {elt tg iter : Expr} {ifs : List Expr} {scope : Scope} {own : List (Str × Nat)} {pos : Pos} {wi : TI} {g : TG} {tt : TT} {te : TE}
    (hc : X.calm = true) (hN : X.N.Nodup) (I : Inv X pins σ H s) (hi : PI X tg iter wi) (ok : BlkOk X.N X.env.scope scope own)
    (hg : ∀ s1 H1 fp, Inv X pins σ H1 s1 → (∀ b ∈ fp, FpOk X pins H1 b) → PG (blkAt X scope s1 H1 fp) tg g) (ht : ∀ s1 H1 fp, Inv X pins σ H1 s1 → (∀ b ∈ fp, FpOk X pins H1 b) → PTs (blkAt X scope s1 H1 fp) ifs tt) (he : ∀ s1 H1 fp, Inv X pins σ H1 s1 → (∀ b ∈ fp, FpOk X pins H1 b) → PE (blkAt X scope s1 H1 fp) elt te)
    (hs : ∀ x, foldedSetIterable iter X.env x = pure x) (h : tLc wi g tt te (own.map (·.2)) σ H Q) : wpAny (model X.prog X.w) X.A (eval (.ListComp elt [⟨tg, iter, ifs, 0⟩] scope pos) X.env) (EP X pins σ Q) X.xe s := by
  rw [eval_ListComp]
  have cells : ∀ y ∈ scope.names, y.2 = .free → ∃ c, X.env.cells.lookup y.1 = some c := fun y hy e => (ok.free y hy e).elim (fun k => I.ok.has _ (.inl k)) fun k => I.ok.has _ (.inr k)
  refine wpAny_comprehension_free (use := none) rfl hs (closure_ok cells) ok.kind (fun y hy e => by rw [ok.uniq y hy, e]) (thn (hi.run pins s σ H _ I h) fun xv s1 hx => thn hx fun itv s2 h2 => ?_)
  obtain ⟨it, fp, tn, J, H2, rfl, I2, T, st2, f2, q⟩ := h2
  refine wpAny_newObj_type (newEnv_comp ?_) (by show 0 ≤ sizeLine; decide)
  generalize hD : s2.heap.objs.size = L
  obtain ⟨W, ⟨m0, w0⟩, turn⟩ := q L (I2.hok.fresh (Nat.le_of_eq hD))
  generalize hs3 : ({ s2 with heap := s2.heap.push { cls := .type "list", data := .seq ([] : List Value).toArray } } : Shared) = s3
  have hp3 : s3.heap = s2.heap.push { cls := .type "list", data := .seq ([] : List Value).toArray } := by rw [← hs3]
  have I3 : Inv X pins σ (upd H2 L (.lst [])) s3 := by
    rw [← hs3]
    exact I2.laid (t' := s2.toks) (fun b o e => Heap.get?_push_of_some _ e) (Nat.le_of_eq hD) ⟨Nat.zero_le _, [], 0, .nil, hD ▸ Heap.get?_push_size _ rfl⟩
  have low : ∀ b ∈ fp, b < s2.heap.objs.size := fun b hb => (T.obj _ _ st2 b hb).elim fun o e => Heap.lt_size e.1
  have f3 : ∀ b ∈ fp, FpOk X pins (upd H2 L (.lst [])) b := fun b hb => ⟨(upd_ne (hD ▸ Nat.ne_of_lt (low b hb))).trans (f2 b hb).1, (f2 b hb).2⟩
  have f3' : ∀ b ∈ fp, FpOk X pins (upd H2 L (.lst [])) b ∧ b < s3.heap.objs.size := fun b hb => ⟨f3 b hb, by rw [hp3, Heap.size_push]; exact Nat.lt_succ_of_lt (low b hb)⟩
  have st3 : tn 0 s3.heap := T.keep _ _ _ st2 fun b _ o e => hp3 ▸ Heap.get?_push_of_some _ e
  have I4 := block_start I3 ok hN f3'
  have pg := hg s3 _ fp I3 f3
  have pt := ht s3 _ fp I3 f3
  have pe := he s3 _ fp I3 f3
  have free3 : ∀ b ∈ fp, (upd H2 L (.lst [])) b = none := fun b hb => (f3 b hb).1
  dsimp only [blkAt] at pg pt pe
  show codeAny _ _ (.compStart (.ListComp elt [⟨tg, iter, ifs, 0⟩] scope pos) 0 (.ref it) (.ref L) (compEnvC scope (cellsFrom (s3.heap.objs.size + 1) scope.names (cloFrom X.env.cells scope.names [])) s3.heap.objs.size X.env))
    (compPost (model X.prog X.w) X.A X.xe none (EP X pins σ Q) (.ref L) s3.heap.objs.size) { s3 with heap := pushCells (s3.heap.push { cls := .type "dict", data := .dict #[] }) scope.names }
  generalize hce : compEnvC scope (cellsFrom (s3.heap.objs.size + 1) scope.names (cloFrom X.env.cells scope.names [])) s3.heap.objs.size X.env = ce at I4 pg pt pe ⊢
  have cl : ce.locals = s3.heap.objs.size := by
    rw [← hce]
    rfl
  generalize hH3 : upd H2 L (.lst []) = H3 at I3 I4 pg pt pe w0 free3 f3
  generalize hs4 : ({ s3 with heap := pushCells (s3.heap.push { cls := .type "dict", data := .dict #[] }) scope.names } : Shared) = s4 at I4 ⊢
  have st4 : tn 0 s4.heap := T.keep _ _ _ st3 fun b _ o e => hs4 ▸ pushCells_keeps _ _ _ _ (Heap.get?_push_of_some _ e)
  have fpOk : ∀ {τ : Sg} {G : Hp} {t : Shared}, Inv (X.blk s3 H3 scope ce fp) [] τ G t → (∀ b ∈ fp, G b = none) → ∀ b ∈ fp, FpOk (X.blk s3 H3 scope ce fp) [] G b := fun J' hn b hb =>
    ⟨hn b hb, (J'.ok.exf b hb).1, J'.ok.exfs b hb, .inl hb, (J'.ok.exf b hb).2, fun p hp => absurd (show p ∈ ([] : List (Addr × Obj)) from hp) List.not_mem_nil⟩
  have loop : codeAny (model X.prog X.w) X.A (.compLoop (.ListComp elt [⟨tg, iter, ifs, 0⟩] scope pos) 0 (.ref it) (.ref L) ce) (compPost (model X.prog X.w) X.A X.xe none (EP X pins σ Q) (.ref L) s3.heap.objs.size) s4 := by
    refine compLoop_any (fun n t => ∃ i G, Inv (X.blk s3 H3 scope ce fp) [] (wipe σ (own.map (·.2))) G t ∧ tn i t.heap ∧ (∀ b ∈ fp, G b = none) ∧ W i n G) ?_ m0 ⟨0, H3, I4, st4, free3, w0⟩
    rintro n t ⟨i, G, J0, stt, fr, wt⟩
    rcases turn i n G wt with ⟨stop, fin⟩ | ⟨go, Nx, more, step⟩
    · refine thnF (T.done (X.blk s3 H3 scope ce fp) rfl rfl rfl hc i [] t _ G (fun _ _ => False) J0 (fpOk J0 fr) stt stop) fun r t1 z => ?_
      obtain ⟨rfl, J1⟩ := z
      have back : Inv X pins σ G t1 := I3.call' (ch := fp) J1.os J1.base J1.hok J1.bare fun b hb => ⟨(f3 b hb).2.2.2.1, (f3 b hb).2.1, (f3 b hb).2.2.2.2.1, (f3 b hb).2.2.2.2.2⟩
      have nC : G s3.heap.objs.size = none := cl ▸ J1.free
      obtain ⟨mm, hn, _⟩ := J1.loc
      have hn : t1.heap.Ns ce.locals mm := hn
      rw [cl] at hn
      obtain ⟨q0, q1, q2, q3, q4, q5⟩ := I3.fpOk (Nat.le_refl _) nC
      exact ⟨mm, hn, fun h'' sb => ⟨.ref L, G, back.turned (t' := t1.toks) (fun b o hb e => (sb.2 b hb).trans e) q0 q1 q3 q4 q5, rfl, fin⟩⟩
    · refine thnF (T.item (X.blk s3 H3 scope ce fp) rfl rfl rfl hc i [] t _ G (fun _ _ => False) J0 (fpOk J0 fr) stt go) fun r t1 z => ?_
      obtain ⟨u, rfl, z⟩ := z
      refine thnF z fun _ t2 ⟨x, G2, J2, r2, y2, stt2, fr2⟩ => ?_
      have J2p := J2.pinned (fpOk J2 fr2) (T.obj _ _ stt2)
      refine thnF (pg.run _ t2 _ G2 x u _ J2p r2 (step x G2 y2)) fun _ t3 ⟨τ, G3, J3, same, q3⟩ => ?_
      refine thnF (pt.run _ t3 τ G3 _ J3 q3) fun b t4 ⟨G4, J4, q4⟩ => ?_
      have again : ∀ {t' : Shared} {G' : Hp}, Inv (X.blk s3 H3 scope ce fp) ([] ++ pinsAt fp t2.heap) τ G' t' → Nx G' → ∃ m, m < n ∧ ∃ i G, Inv (X.blk s3 H3 scope ce fp) [] (wipe σ (own.map (·.2))) G t' ∧ tn i t'.heap ∧ (∀ b ∈ fp, G b = none) ∧ W i m G := fun {t' G'} J' nx => by
        obtain ⟨m', lt, w'⟩ := more G' nx
        have kept : ∀ b ∈ fp, ∀ o, t2.heap.get? b = some o → t'.heap.get? b = some o ∧ G' b = none := fun b hb o e => by
          have z := J'.pin (b, o) (List.mem_append_right _ (List.mem_append_right _ (mem_pinsAt hb e)))
          exact ⟨z.1, z.2.1⟩
        refine ⟨m', lt, i + 1, G', (J'.unpinned (pins := [])).weak (by rw [← same, wipe_length]) fun j v e => ?_, T.keep _ _ _ stt2 fun b hb o e => (kept b hb o e).1, fun b hb => ?_, w'⟩
        · rw [← same] at e
          exact (wipe_some e).1
        · obtain ⟨o, e, _⟩ := T.obj _ _ stt2 b hb
          exact (kept b hb o e).2
      cases b with
      | false =>
        simp only [Bool.false_eq_true, if_false] at q4 ⊢
        exact again J4 q4
      | true =>
        simp only [if_true] at q4 ⊢
        refine thnF (pe.run _ t4 τ G4 _ J4 q4) fun _ t5 ⟨yv, G5, J5, r5, acc, aD, az, nx⟩ => ?_
        exact app_ok (X := X.blk s3 H3 scope ce fp) J5 aD az r5 fun t6 J6 => again J6 nx
  exact codeAny_compStart_list loop (T.self X.A 0 _ _ _ st4 loop)
end MI
end
section
set_option maxHeartbeats 1000000
/-! M5: a lambda without parameters as a tracked object. -/
namespace MI
open PySem PySem.Spec PyProof.Rows L2
/-- the lambda at a, tracked -/
abbrev lamHO (X : Cx) (params : Arguments) (body : Expr) (scope : Scope) (pm : Value) (c : Addr) (ct : Value) (a : Addr) : HO := .ext fun h => h.get? a = some (lamO X params body scope pm c ct)
theorem lam_new {X : Cx} {φ : Addr → Addr → Value → Value → Heap → Prop} {pins : List (Addr × Obj)} {σ : Sg} {H : Hp} {s : Shared} {T : List (Addr × Str)} {c P : Addr} {params : Arguments} {body : Expr} {scope : Scope} {pos : Pos} {E Q : Value → Shared → Prop} (I : Inv X pins σ H s) (TB : LamX.TabB X.base X.mg c P) (hc : X.env.code = .ref c)
    (hm : (P, lamN X) ∈ T) (hu : ∀ p ∈ T, p.1 = P → p.2 = lamN X) (hT : LamX.Tabs T H) (hd : defaultsOf params X.env = ([], [])) (hf : ∀ y ∈ scope.names, y.2 = .free → ∃ c, X.env.cells.lookup y.1 = some c)
    (hφ : ∀ a c pm ct (h : Heap), h.get? a = some (lamO X params body scope pm c ct) → φ a c pm ct h) (kφ : ∀ a c pm ct (h1 h2 : Heap), φ a c pm ct h1 → (∀ o, h1.get? a = some o → h2.get? a = some o) → φ a c pm ct h2)
    (h : ∀ (f c' : Addr) (pm ct : Value) (H1 : Hp) (s' : Shared), Inv X pins σ (upd H1 f (.ext (φ f c' pm ct))) s' → LamX.ExtN H H1 → LamX.Tabs T H1 → H1 f = none → f ≠ c' → H1 c' = some (LamX.CodeO c' (lamN X)) → Q (.ref f) s') : wpAny (model X.prog X.w) X.A (eval (.Lambda params body scope pos) X.env) Q E s := by
  obtain ⟨ps, hP, ht, am⟩ := hT _ hm
  have bP : s.heap.BuiltinsAt X.mg P := TB.bm.keeps I.bk
  have gP : s.heap.get? P = some { cls := .none, data := .fields ps } := I.hok P _ hP
  have track : ∀ {H1 : Hp} {g : Heap} {pm ct : Value} {c' : Addr} {tk : Nat}, Inv X pins σ H1 { s with heap := g, toks := tk } →
      Inv X pins σ (upd H1 g.objs.size (.ext (φ g.objs.size c' pm ct))) { s with heap := g.push (lamO X params body scope pm c' ct), toks := tk } := fun {H1 g pm ct c' tk} J => by
    have eo : (g.push (lamO X params body scope pm c' ct)).get? g.objs.size = some (lamO X params body scope pm c' ct) := Heap.get?_push_size _ rfl
    exact J.laid (t' := tk) (fun b u q => Heap.get?_push_of_some _ q) (Nat.le_refl _) ⟨hφ _ _ _ _ _ eo, ⟨_, eo⟩, fun h1 h2 p k => kφ _ _ _ _ _ _ p k⟩
  refine PySem.W.kla_eval hd ?_
  cases ha : codeAmong pos ps.toList with
  | some cv =>
    obtain ⟨c', rfl, hco⟩ := am pos cv ha
    refine PySem.W.kla_makeFunctionHit (mg := X.mg) (c := c) (P := P) (ps := ps) (closure_ok hf) I.ok.glob (I.mod.glob.keeps I.bk) hc (TB.code.keeps I.bk) gP ht ha bP fun ct h' tk hx hsz => ?_
    have J : Inv X pins σ H { s with heap := h', toks := tk } := I.kept hx
    have fr := J.hok.fresh (Nat.le_refl h'.objs.size)
    exact h h'.objs.size c' _ _ H _ (track J) (.refl H) hT fr (fun z => by rw [z, hco] at fr; cases fr) hco
  | none =>
    refine PySem.W.kla_makeFunction (mg := X.mg) (c := c) (P := P) (ps := ps) (closure_ok hf) I.ok.glob (I.mod.glob.keeps I.bk) hc (TB.code.keeps I.bk) gP ht ha TB.gP bP fun c' ct h' tk hx hge hlt hrec htb => ?_
    obtain ⟨c2, oc, vs, t, e2, hoc, hod, hv⟩ := hrec
    cases e2
    have nC : H c' = none := I.hok.fresh hge
    have nP : ∀ b u, H b = some u → (∀ q, u ≠ .tbl q) → b ≠ P := fun b u e q z => by
      rw [z, hP] at e
      exact q ps (Option.some.inj e).symm
    have J := LamX.inv_table (t' := tk) (more := #[rawInt pos.line, rawInt pos.col, .ref c']) (h' := h') (q := lamN X) I hP hx htb hge ⟨oc, vs, t, hoc, hod, hv⟩
    have ex : LamX.ExtN H (upd (upd H P (.tbl (ps ++ #[rawInt pos.line, rawInt pos.col, .ref c']))) c' (LamX.CodeO c' (lamN X))) := fun b o e n => by
      rw [upd_ne (ne_of_none e nC), upd_ne (nP b o e n)]
      exact e
    have eL : (ps ++ #[rawInt pos.line, rawInt pos.col, .ref c']).toList = ps.toList ++ [rawInt pos.line, rawInt pos.col, .ref c'] := by simp
    refine h h'.objs.size c' _ _ _ _ (track J) ex (fun p hp => ?_) (J.hok.fresh (Nat.le_refl _)) (Nat.ne_of_gt hlt) upd_same
    by_cases hb : p.1 = P
    · rw [hu p hp hb, hb]
      refine ⟨_, by rw [upd_ne (ne_of_none hP nC), upd_same], by rw [eL]; exact PySem.TriplesOk_snoc _ _ _ _ ht, fun p' cv hcv => ?_⟩
      rw [eL] at hcv
      rcases LamX.among_app _ ht hcv with z | z
      · obtain ⟨c0, e1, e2⟩ := am p' cv z
        exact ⟨c0, e1, ex _ _ e2 LamX.codeO_ne⟩
      · exact ⟨c', z, upd_same⟩
    · obtain ⟨ps', a1, a2, a3⟩ := hT p hp
      refine ⟨ps', by rw [upd_ne (ne_of_none a1 nC), upd_ne hb]; exact a1, a2, fun p' cv hcv => ?_⟩
      obtain ⟨c0, e1, e2⟩ := a3 p' cv hcv
      exact ⟨c0, e1, ex _ _ e2 LamX.codeO_ne⟩
end MI
end
section
set_option maxHeartbeats 1000000
/-! M6: such a lambda's body is entered. -/
namespace MI
open PySem PySem.Spec PyProof.Rows L2
theorem lam_in {X : Cx} {pins : List (Addr × Obj)} {σ : Sg} {H HZ : Hp} {s s1 : Shared} {A : Around} {out : List PySem.Env} {E : XK} {scope : Scope} {f c' : Addr} {h₁ : Heap} {tk : Nat} (I : Inv X pins σ H s) (L : LamX.LamS X.env.scope scope)
    (e0 : Env0 X.prog X.w X.K X.mg X.base A out s1 HZ) (hd : A.handled = none) (kc : ∀ y c v, X.env.cells.lookup y = some c → s.heap.IsCell c v → s1.heap.IsCell c v) (fc : ∀ y c, X.env.cells.lookup y = some c → HZ c = none)
    (ns : h₁.Ns s1.heap.objs.size fun y => ([] : List (Str × Value)).reverse.lookup y) (kp : ∀ b o, s1.heap.get? b = some o → h₁.get? b = some o) :
    Inv (LamX.lamCx X A out s1 HZ E scope f c') [] σ HZ { s1 with heap := h₁, toks := tk } := by
  have has := L.has I.ok
  have up : ∀ {y c}, (cloFrom X.env.cells scope.names []).lookup y = some c → X.env.cells.lookup y = some c := fun {y c} e => by
    rcases cloFrom_mem (PySem.mem_of_lookup e) with z | ⟨z1, z2⟩
    · cases z
    · obtain ⟨c1, hc⟩ := has _ z1 rfl
      have hc : X.env.cells.lookup y = some c1 := hc
      have : c = c1 := by
        rw [z2, hc]
        rfl
      rw [this]
      exact hc
  have down : ∀ {y}, scope.names.lookup y = some .free → ∃ c, (cloFrom X.env.cells scope.names []).lookup y = some c := fun {y} e => mem_lookup (cloFrom_has (cells := X.env.cells) (acc := []) (PySem.mem_of_lookup e))
  have noL : ∀ {y}, scope.names.lookup y ≠ some .local := fun {y} e => (L.own _ (PySem.mem_of_lookup e)).1 rfl
  have noC : ∀ {y}, scope.names.lookup y ≠ some .cell := fun {y} e => (L.own _ (PySem.mem_of_lookup e)).2 rfl
  have cell : ∀ {y c v}, X.env.cells.lookup y = some c → s.heap.IsCell c v → h₁.IsCell c v := fun {y c v} e q => by
    obtain ⟨o, ho, hd⟩ := kc y c v e q
    exact ⟨o, kp _ _ ho, hd⟩
  have ex0 : ∀ b : Addr, b ∉ (LamX.lamCx X A out s1 HZ E scope f c').ex := fun b => List.not_mem_nil
  refine ⟨⟨e0.mod, L.kind, rfl, rfl, Nat.le_refl _, fun y z c q1 q2 => I.ok.inj y z c (up q1) (up q2), fun y hy => ?_, fun y c z => ?_, fun _ => hd, Around.frames_deeper e0.frames, .inr ⟨rfl, rfl⟩, fun b z => absurd z (ex0 b), e0.bs, e0.bsz, fun b _ _ => ex0 b, fun b z => absurd z (ex0 b), e0.funs, e0.frf⟩,
    rfl, e0.bare, Un.kept kp, ⟨_, ns, fun i y v q1 q2 q3 => ?_⟩, fun y c q => ?_, e0.hok.fresh (Nat.le_refl _), fun y c q => fc y c (up q), fun p hp => absurd (show p ∈ ([] : List (Addr × Obj)) from hp) List.not_mem_nil, e0.hok.kept kp, I.len⟩
  · exact (show scope.names.lookup y = some .cell ∨ scope.names.lookup y = some .free from hy).elim (fun z => absurd z noC) down
  · exact absurd (show false = true from z) Bool.false_ne_true
  · rcases (show Vis scope y from q3) with z | z | z
    · exact absurd z noL
    · exact absurd z noC
    · obtain ⟨m, hn, hl⟩ := I.loc
      have fr := L.free _ (PySem.mem_of_lookup z) rfl
      obtain ⟨u, r, q⟩ := hl i y v q1 q2 (fr.elim (fun k => .inr (.inl k)) fun k => .inr (.inr k))
      obtain ⟨c2, hc2⟩ := down z
      refine ⟨u, r, .inr ⟨.inr z, c2, hc2, ?_⟩⟩
      have hx := up hc2
      rcases q with ⟨k', _⟩ | ⟨_, c3, e3, q⟩
      · have k' : X.env.scope.names.lookup y = some .local := k'
        rcases fr with k2 | k2
        · have k2 : X.env.scope.names.lookup y = some .cell := k2
          rw [k2] at k'
          cases k'
        · have k2 : X.env.scope.names.lookup y = some .free := k2
          rw [k2] at k'
          cases k'
      · rw [hx] at e3
        cases e3
        exact cell hx q
  · obtain ⟨v, z⟩ := I.cell y c (up q)
    exact ⟨v, cell (up q) z⟩
end MI
end
section
set_option maxHeartbeats 1000000
/-! M7: a tracked lambda handed, in a comprehension's block, to the def that calls it. -/
namespace MI
open PySem PySem.Spec PyProof.Rows L2
theorem cell_un {fs ex : List Addr} {H H' : Hp} {h h' : Heap} {c : Addr} {v : Option Value} (u : Un fs ex H H' h h') (n : H c = none) (hx : c ∉ ex) (q : h.IsCell c v) : h'.IsCell c v := by
  obtain ⟨o, ho, hd⟩ := q
  obtain ⟨sl, e⟩ := u.any ho n hx
  exact ⟨_, e, hd⟩
section
variable {X : Cx} {rc : Rc} {W : WX} {k : Ct} {p1 p2 : Pos} {n : Nat} {a : Str}
theorem e_actT {pins pinsB : List (Addr × Obj)} {σ τB : Sg} {H1 GB : Hp} {s1 sB : Shared} {fp : List Addr} {scope sg : Scope} {N : List Str} {q : Str} {g f c : Addr} {cd pm ct : Value} {φ : Heap → Prop} {pn : List (Addr × Obj)} {xe : Value → Shared → Prop} {E : XK} {tb : TE}
    (I1 : Inv X pins σ H1 s1) (f1 : ∀ b ∈ fp, FpOk X pins H1 b) (J : Inv (blkAt X scope s1 H1 fp) pinsB τB GB sB) 
    (hφ : ∀ h : Heap, φ h → ∃ (params : Arguments) (body : Expr) (ls : Scope), h.get? f = some (lamO X params body ls pm c ct) ∧ LamX.LamS X.env.scope ls ∧ bindArgs (PySem.W.kla_fn "<lambda>" (lamN X) params body ls (cloFrom X.env.cells ls.names []) pm (.ref c) ct) ⟨[], []⟩ = pure [] ∧
      ∀ (A : Around) (out : List PySem.Env) (s : Shared) (H : Hp), Room n (A.deeper (LamX.lamEnv X ls s.heap.objs.size f c)) → A.guards = some [] → PE (LamX.lamCx X A out s H E ls f c) body tb)
    (tk : Takes ((gotCx (blkAt X scope s1 H1 fp) N q sg g cd sB GB).tr pn xe) W) (hW : ∀ cls d σ' H', E cls d H' → W cls d σ' H') (hr : Room (n + 1) (X.A.deeper (envOfC q sg sB.heap.objs.size g cd))) (hg : X.A.guards = some [])
    (hN : N[0]? = some a) (hv : Vis sg a) (db : (a == ("__debug__" : Str)) = false) (dd : (a == ("__classdict__" : Str)) = false) :
    PE ((gotCx (blkAt X scope s1 H1 fp) N q sg g cd sB GB).tr pn xe) (.Call (.Name a p1) [] [] p2) (fun τ G Q => τ[0]? = some (some (.ref f)) ∧ G f = some (.ext φ) ∧ G c = some (LamX.CodeO c (lamN X)) ∧ tb σ G Q) := by
  refine ⟨fun pinsZ sZ τ G Q JZ t => ?_⟩
  obtain ⟨t1, t2, t3, t4⟩ := t
  have rd := (pe_var (X := (gotCx (blkAt X scope s1 H1 fp) N q sg g cd sB GB).tr pn xe) (pos := p1) (i := 0) hN hv db dd).run pinsZ sZ τ G (fun v G1 => v = .ref f ∧ G1 = G) JZ ⟨.ref f, t1, rfl, rfl⟩
  refine wpAny_Call_Name_kw (thn rd fun u s2 z => ?_)
  obtain ⟨v, G1, J1, rv, z1, z2⟩ := z
  subst z1
  rw [z2] at J1
  obtain rfl : u = Value.ref f := rv
  obtain ⟨params, body, ls, hof, L, hb, run⟩ := hφ _ (J1.hok f _ t2).1
  have uB : Un (frs X.stack) fp H1 GB s1.heap sB.heap := J.base
  have uZ : Un (frs X.stack) [] GB G sB.heap s2.heap := J1.base
  have nfp : ∀ y c, X.env.cells.lookup y = some c → c ∉ fp := fun y c e hm => (f1 c hm).2.2.2.2.1 y c e rfl
  have cB : ∀ y c, X.env.cells.lookup y = some c → GB c = none := fun y c e => by
    obtain ⟨v, o, ho, hd⟩ := I1.cell y c e
    exact uB.free c o ho (I1.freeC y c e) (nfp y c e)
  have cG : ∀ y c, X.env.cells.lookup y = some c → G c = none := fun y c e => by
    obtain ⟨v, hcell⟩ := I1.cell y c e
    obtain ⟨o, ho, hd⟩ := cell_un uB (I1.freeC y c e) (nfp y c e) hcell
    exact uZ.free c o ho (cB y c e) List.not_mem_nil
  refine PySem.W.callWith_F0 ⟨_, _, _, _, hof⟩ (wpAny_call (codeAny_mono (R := CR (L2.CX X.prog X.w) (envOfC q sg sB.heap.objs.size g cd :: X.stack) X.prog X.w G s2 Q E) ?_ ?_))
  · obtain ⟨⟨oc, vs, tk', w1, w2, w3⟩, _, _⟩ := J1.hok c _ t3
    refine PySem.W.kla_callFunE hr.depth hof rfl L.co L.gen rfl ⟨c, oc, vs, tk', rfl, w1, w2, w3⟩ ?_
    rw [show bindArgs (PySem.W.kla_fn "<lambda>" (lamN X) params body ls (cloFrom X.env.cells ls.names []) pm (.ref c) ct) ⟨[] ++ [], []⟩ = pure [] from hb]
    refine wpAny_pure (wpAny_newFunctionEnv (fun y hy => (L.own y hy).2) (fun y hy => absurd hy List.not_mem_nil) (fun h₁ ns sb => ⟨J1.nolimit.fresh _ sb, ?_⟩) L.kind)
    have kp : ∀ b o, s2.heap.get? b = some o → h₁.get? b = some o := fun b o e => sb.extBut b o (Nat.ne_of_lt (Heap.lt_size e)) (Heap.get?_push_of_some _ e)
    have Jl := lam_in (E := E) (f := f) (c' := c) (tk := s2.toks + ([] : List (Str × Value)).length) I1 L J1.env0 hr.hd (fun y c v e z => cell_un uZ (cB y c e) List.not_mem_nil (cell_un uB (I1.freeC y c e) (nfp y c e) z)) cG ns kp
    refine PySem.W.kla_codeExpr (wpAny_mono ((run _ _ s2 G (hr.deeper _) hg).run [] _ _ G Q Jl t4) (fun v s' z => ?_) fun _ _ z => z)
    obtain ⟨w', G', J', rv', z⟩ := z
    exact ⟨w', G', J'.os, J'.bare, J'.base, J'.hok, rv', z⟩
  · intro r s' z
    match r, z with
    | .error u, z => exact passes_call tk hW pinsZ τ G s2 u s' J1 z
    | .ok (.ret u), z => exact J1.after z
    | .ok .next, z => exact z.elim
    | .ok .brk, z => exact z.elim
    | .ok .cont, z => exact z.elim
end
end MI
end
section
set_option maxHeartbeats 1000000
/-! M8: whether it is refused. -/
namespace MI
open PySem PySem.Spec PyProof.Rows L2
section
variable {X : Cx} {rc : Rc} {W : WX} {k : Ct} {p p5 pos : Pos} {n : Nat} {x a : Str}
theorem e_nothT {pins : List (Addr × Obj)} {σ : Sg} {H1 : Hp} {s1 : Shared} {fp : List Addr} {scope sg : Scope} {ia : Nat} {act : Str} {pg : Arguments} {g f c : Addr} {fd : FuncData} {N : List Str} {y : Str} {j1 j2 m : Nat} {qs : List Pos} {φ : Heap → Prop} {pm ct : Value} {gd : Env → Hs → R D} {as : List Addr} {env : Env} {h h9 : Hs} {u : Ex}
    (I1 : Inv X pins σ H1 s1) (f1 : ∀ b ∈ fp, FpOk X pins H1 b) (hK : rc.K = X.K) (hex : ∀ a b, a < rc.nx → b < rc.nx → PySem.W.exmOne X.K (.ref (rc.ca a)) (.ref (rc.ca b)) = some (k.sub a b))
    (gl : Gl (blkAt X scope s1 H1 fp) x) (gm : X.mg x = some (.ref g)) (F : FunD X.K x x pg (askB a y j1 j2 qs) sg [] [] g fd) (B : Binds X.K fd [a] []) (S : FnScope N [a] sg) (hN : N[0]? = some a) (hv : Vis sg a)
    (gy : sg.names.lookup y = some .globalImplicit) (my : X.mg y = some (.ref (rc.ca m))) (lm : m < rc.nx) (hr : Room (n + 2) X.A) (hg : X.A.guards = some [])
    (hia : X.N[ia]? = some act) (via : Vis (blkAt X scope s1 H1 fp).env.scope act) (o1 : (act == ("__debug__" : Str)) = false) (o2 : (act == ("__classdict__" : Str)) = false)
    (ev : gd env h = .exc u h9) (su : k.sub u.cls m = true) (pr : Hs.pre h h9 = true)
    (hφ : ∀ h : Heap, φ h → ∃ (params : Arguments) (body : Expr) (ls : Scope), h.get? f = some (lamO X params body ls pm c ct) ∧ LamX.LamS X.env.scope ls ∧ bindArgs (PySem.W.kla_fn "<lambda>" (lamN X) params body ls (cloFrom X.env.cells ls.names []) pm (.ref c) ct) ⟨[], []⟩ = pure [] ∧
      ∀ (A : Around) (out : List PySem.Env) (s : Shared) (H : Hp) (E : XK), Room n (A.deeper (LamX.lamEnv X ls s.heap.objs.size f c)) → A.guards = some [] → PE (LamX.lamCx X A out s H E ls f c) body (tE rc (fun cls dd _ H' => E cls dd H') gd))
    (dx : (x == ("__debug__" : Str)) = false) (da : (a == ("__debug__" : Str)) = false) (dd : (a == ("__classdict__" : Str)) = false) (dy : (y == ("__debug__" : Str)) = false) :
    PE (blkAt X scope s1 H1 fp) (.Call (.Name x p) [.Name act p5] [] pos) (fun τ G Q => τ[ia]? = some (some (.ref f)) ∧ G f = some (.ext φ) ∧ G c = some (LamX.CodeO c (lamN X)) ∧ ERel rc as G env σ ∧ SRel rc as h G ∧
      ∀ G', Stp as G as G' → SRel rc as h G' → Q (.bl true) G') := by
  obtain ⟨oc, od, dV, kV, doc, pmd, an, cd, ctd, osl, rfl, lk, hcd, _, _⟩ := F.ex
  refine ⟨fun pinsB sB τ G Q J t => ?_⟩
  obtain ⟨t1, t2, t3, E0, S0, q⟩ := t
  refine wpAny_Call_Name_kw (ld_glob J gl gm ?_ dx)
  have arg := (pa_cons (pe_var (X := blkAt X scope s1 H1 fp) (pos := p5) (i := ia) hia via o1 o2) pa_nil).run pos pinsB sB τ G (fun vs G1 => vs = [.ref f] ∧ G1 = G) J ⟨.ref f, t1, rfl, rfl⟩
  refine PySem.W.callWith_K (h₀ := X.base) J.ok.mod.kin F.kp (thn arg fun us s2 z => ?_) rfl rfl
  obtain ⟨vs, G1, J2, rv, z1, z2⟩ := z
  subst z1
  rw [z2] at J2
  obtain ⟨uu, rfl, ru⟩ := Vals.one rv
  obtain rfl : uu = Value.ref f := ru
  refine ⟨J2.kIn, ?_⟩
  refine wpAny_call (codeAny_mono (R := CR C8.CX0 X.stack X.prog X.w G s2 Q C8.E0) (LamX.run_ofS (k := n + 1) (N := N) (ps := [a]) (us := [.ref f]) (vs := [.ref f]) lk hcd S hr J2.env0 (B s2 [.ref f] J2.kIn rfl) (.cons rfl .nil) rfl fun hr' => ?_) fun r s3 z => ?_)
  · let Z : Cx := gotCx (blkAt X scope s1 H1 fp) N x sg g cd s2 G
    have gyZ : Gl Z y := gy
    have body := ps_try_only (X := Z) (x := y) (c := .ref (rc.ca m)) (np := qs.getD 3 ⟨0, 0, 0, 0⟩) (pos := qs.getD 7 ⟨0, 0, 0, 0⟩) (pos' := qs.getD 6 ⟨0, 0, 0, 0⟩)
      (b₀ := .Return (some (.Constant (.bool true) j1 (qs.getD 4 ⟨0, 0, 0, 0⟩))) (qs.getD 5 ⟨0, 0, 0, 0⟩)) (suite := []) (body := [.Expr (.Call (.Name a (qs.getD 0 ⟨0, 0, 0, 0⟩)) [] [] (qs.getD 1 ⟨0, 0, 0, 0⟩)) (qs.getD 2 ⟨0, 0, 0, 0⟩)])
      (tb := fun W D τ G => ∃ E : XK, (∀ cls d σ' H', E cls d H' → W cls d σ' H') ∧ τ[0]? = some (some (.ref f)) ∧ G f = some (.ext φ) ∧ G c = some (LamX.CodeO c (lamN X)) ∧ tE rc (fun cls dd _ H' => E cls dd H') gd σ G fun _ G' => D.nx τ G')
      (ts := fun _ _ _ => tRet (L2.tC (.bl true))) (Wout := fun _ _ _ _ => False) rfl rfl ⟨gyZ, dy, .inl my⟩ takesF
      (fun W pn xe tk _ => ⟨fun pins' s4 τ' G' D' J' t' => by
        obtain ⟨E, hW, t1, t2, t3, t4⟩ := t'
        have ac := e_actT (n := n) (pm := pm) (ct := ct) (p1 := qs.getD 0 ⟨0, 0, 0, 0⟩) (p2 := qs.getD 1 ⟨0, 0, 0, 0⟩) I1 f1 J2 (φ := φ) (fun h hp => by
          obtain ⟨params, body, ls, a1, a2, a3, a4⟩ := hφ h hp
          exact ⟨params, body, ls, a1, a2, a3, fun A out s H r1 r2 => a4 A out s H E r1 r2⟩) tk hW hr' hg hN hv da dd
        exact (pss_one (ps_expr ac (by rfl))).run pins' s4 τ' G' D' J' ⟨t1, t2, t3, t4⟩⟩)
      (fun _ _ _ _ _ _ _ => pss_one (ps_ret pe_bl))
    refine ⟨_, pss_cons body (pss_one (ps_ret pe_bl)), fun cls _ H' => ∃ b, PySem.W.exmOne X.K cls (.ref (rc.ca m)) = some b ∧ (b = true → Q (.bl true) H') ∧ (b = false → False), ?_, rfl, t2, t3, as, env, h, E0, S0, ?_⟩
    · rintro cls _ σ' H' ⟨b, b1, b2, b3⟩
      exact ⟨b, b1, fun z _ _ => b2 z, b3⟩
    · rw [ev]
      intro as' H' cls _ st3 S3 xr
      obtain ⟨rfl, hx, _⟩ := xr
      obtain ⟨z, rfl⟩ := Hs.pre_ok pr
      obtain ⟨st4, S4⟩ := S0.cut st3 S3
      exact ⟨_, hex _ _ hx lm, fun _ => q H' st4 S4, fun w => by rw [su] at w; cases w⟩
  · match r, z with
    | .error u, z => exact z.elim
    | .ok (.ret u), z => exact J2.after z
    | .ok .next, z => exact z.elim
    | .ok .brk, z => exact z.elim
    | .ok .cont, z => exact z.elim
end
end MI
end
section
set_option maxHeartbeats 1000000
/-! M9: lambdas as values: made, listed, asked one by one. -/
namespace MI
open PySem PySem.Spec PyProof.Rows L2
/-- a cell holds a list -/
theorem SRel.cell' {rc : Rc} {as : List Addr} {h : Hs} {H : Hp} (S : SRel rc as h H) {a : Addr} (ha : a ∈ as) : ∃ o, H a = some o ∧ (∀ φ : Heap → Prop, o ≠ .ext φ) ∧ (∀ ps, o ≠ .tbl ps) := by
  obtain ⟨n, hn, e⟩ := List.getElem_of_mem ha
  have hn' : n < h.length := by
    rw [← S.len]
    exact hn
  have m := S.ok n _ a (List.getElem?_eq_getElem hn') (by rw [List.getElem?_eq_getElem hn, e])
  cases hm : h[n] with
  | list xs =>
    rw [hm] at m
    obtain ⟨vs, e', _⟩ := m
    exact ⟨_, e', ⟨fun _ z => (nomatch z), fun _ z => (nomatch z)⟩⟩
  | frz xs =>
    rw [hm] at m
    obtain ⟨vs, o, e', _⟩ := m
    exact ⟨_, e', ⟨fun _ z => (nomatch z), fun _ z => (nomatch z)⟩⟩
  | dict _ => rw [hm] at m; exact m.elim
  | inst _ _ => rw [hm] at m; exact m.elim
/-- a lambda without parameters -/
abbrev noPs : Arguments := ⟨[], [], none, [], [], none, []⟩
/-- what stands where a lambda of the frame stands -/
def cloP (X : Cx) (ok : Nat → Scope → Expr → Bool) (l : Nat) (a : Addr) (pm : Value) (c : Addr) (ct : Value) (h : Heap) : Prop :=
  ∃ (body : Expr) (ls : Scope), ok l ls body = true ∧ LamX.lamSB X.env.scope ls = true ∧ h.get? a = some (lamO X noPs body ls pm c ct)
section
variable {X : Cx} {rc : Rc} {W : WX} {k : Ct} {pos : Pos}
theorem e_lam {c P : Addr} {body : Expr} {scope : Scope} {ok : Nat → Scope → Expr → Bool} {l : Nat} (TB : LamX.TabB X.base X.mg c P) (hc : X.env.code = .ref c) (hT : (P, lamN X) ∈ rc.T) (hu : ∀ p ∈ rc.T, p.1 = P → p.2 = lamN X)
    (hcq : rc.cq = lamN X) (hcl : rc.clo = cloP X ok) (L : LamX.lamSB X.env.scope scope = true) (hok : ok l scope body = true) : PE X (.Lambda noPs body scope pos) (tE rc W (evE (.lam l) k)) := by
  refine ⟨fun pins s σ H Q I t => ?_⟩
  obtain ⟨as, env, h, E, S0, q⟩ := t
  rw [evE] at q
  have LS := LamX.lamS_by L
  refine lam_new (φ := fun a c pm ct => rc.clo l a pm c ct) I TB hc hT hu S0.tab rfl (fun y hy e => (LS.has I.ok) y hy e) (fun a c pm ct h e => ?_) (fun a c pm ct h1 h2 p kp => ?_) fun f c' pm ct H1 s' I1 eN T1 ho hf hco => ?_
  · rw [hcl]
    exact ⟨body, scope, hok, L, e⟩
  · rw [hcl] at p ⊢
    obtain ⟨b, ls, p1, p2, p3⟩ := p
    exact ⟨b, ls, p1, p2, kp _ p3⟩
  · have ex : ∀ b o, H b = some o → (∀ ps, o ≠ .tbl ps) → upd H1 f (.ext (rc.clo l f pm c' ct)) b = some o := fun b o e n => by
      have e1 := eN b o e n
      rw [upd_ne (ne_of_none e1 ho)]
      exact e1
    have st : Stp as H as (upd H1 f (.ext (rc.clo l f pm c' ct))) := ⟨⟨[], by simp⟩, fun b hb => .inl hb, fun b o e _ ht => ex b o e ht⟩
    have S1 : SRel rc as h (upd H1 f (.ext (rc.clo l f pm c' ct))) := S0.keep st (tabs_new T1 ho) fun b hb => by
      obtain ⟨o, e, _, z⟩ := S0.cell' hb
      rw [e]
      exact ex b o e z
    refine ⟨.ref f, _, I1, rfl, q as _ st S1 (.ref f) ?_⟩
    simp only [RD]
    refine ⟨f, pm, c', ct, rfl, fun hm => ?_, fun hm => ?_, upd_same, ?_⟩
    · obtain ⟨o, e, _, z⟩ := S0.cell' hm
      have := eN f o e z
      rw [ho] at this
      cases this
    · obtain ⟨o, e, z1, z⟩ := S0.cell' hm
      have := eN c' o e z
      rw [hco] at this
      cases this
      exact z1 _ rfl
    · rw [upd_ne (Ne.symm hf), hcq]
      exact hco
theorem l_acts {scope : Scope} {i m ia n : Nat} {lst act x a y : Str} {p1 p2 p3 p4 p5 p6 p7 : Pos} {pg : Arguments} {sg : Scope} {g : Addr} {fd : FuncData} {N : List Str} {j1 j2 : Nat} {qs : List Pos}
    (hK : rc.K = X.K) (hex : ∀ a b, a < rc.nx → b < rc.nx → PySem.W.exmOne X.K (.ref (rc.ca a)) (.ref (rc.ca b)) = some (k.sub a b)) (hc : X.calm = true) (hN : X.N.Nodup)
    (hi : X.N[i]? = some lst) (vi : Vis X.env.scope lst) (i1 : (lst == ("__debug__" : Str)) = false) (i2 : (lst == ("__classdict__" : Str)) = false)
    (hia : X.N[ia]? = some act) (via : Vis (relabel scope X.env) act) (lia : (relabel scope X.env).names.lookup act = some .local) (o1 : (act == ("__debug__" : Str)) = false) (o2 : (act == ("__classdict__" : Str)) = false)
    (ok : BlkOk X.N X.env.scope scope [(act, ia)]) (gl : (relabel scope X.env).names.lookup x = some .globalImplicit)
    (gm : X.mg x = some (.ref g)) (F : FunD X.K x x pg (askB a y j1 j2 qs) sg [] [] g fd) (B : Binds X.K fd [a] []) (S : FnScope N [a] sg) (hNa : N[0]? = some a) (hv : Vis sg a)
    (gy : sg.names.lookup y = some .globalImplicit) (my : X.mg y = some (.ref (rc.ca m))) (lm : m < rc.nx) (hr : Room (n + 2) X.A) (hg : X.A.guards = some []) (hcq : rc.cq = lamN X)
    (hclo : ∀ (l : Nat) (f : Addr) (pm : Value) (c : Addr) (ct : Value) (h : Heap), rc.clo l f pm c ct h → ∃ (params : Arguments) (body : Expr) (ls : Scope), h.get? f = some (lamO X params body ls pm c ct) ∧ LamX.LamS X.env.scope ls ∧
      bindArgs (PySem.W.kla_fn "<lambda>" (lamN X) params body ls (cloFrom X.env.cells ls.names []) pm (.ref c) ct) ⟨[], []⟩ = pure [] ∧
      ∀ (A : Around) (out : List PySem.Env) (s : Shared) (H : Hp) (E : XK), Room n (A.deeper (LamX.lamEnv X ls s.heap.objs.size f c)) → A.guards = some [] → PE (LamX.lamCx X A out s H E ls f c) body (tE rc (fun cls dd _ H' => E cls dd H') (k.lamb l)))
    (dx : (x == ("__debug__" : Str)) = false) (da : (a == ("__debug__" : Str)) = false) (dd : (a == ("__classdict__" : Str)) = false) (dy : (y == ("__debug__" : Str)) = false) :
    PE X (.ListComp (.Name act p1) [⟨.Name act p2, .Name lst p3, [.UnaryOp .Not (.Call (.Name x p4) [.Name act p5] [] p6) p7], 0⟩] scope pos) (tL rc W (evL (.acts i m) k)) := by
  refine ⟨fun pins s σ H Q I t => ?_⟩
  obtain ⟨as, env, h, E, S0, q⟩ := t
  have run : ∃ nn ds, env[i]? = some (some (.ref nn)) ∧ h[nn]? = some (.list ds) ∧ ds.all (refused k m env h) = true := by
    rw [evL] at q
    split at q
    · split at q
      · split at q
        · exact ⟨_, _, by assumption, by assumption, by assumption⟩
        · exact q.elim
      · exact q.elim
    · exact q.elim
  obtain ⟨nn, ds, e1, e2, e3⟩ := run
  have q : Post rc W σ as H (fun ds as' h' H' => ∀ a vs, H' a = some (.lst vs) → a ∉ as' → Nw H a → RDs rc as' H' ds vs → Q (.ref a) H') (.ok [] h) := by
    rw [evL, e1] at q
    dsimp only at q
    rw [e2] at q
    dsimp only at q
    rw [if_pos e3] at q
    exact q
  have ei : evI (.e (.var i)) k env h = .ok (ds, [(nn, ds)]) h := by
    rw [evI, evE, e1]
    simp [walkD, e2]
  have lσ : ia < σ.length := by
    rw [I.len]
    exact (List.getElem?_eq_some_iff.mp hia).1
  let tt : TT := fun τ G R => ∃ (l : Nat) (f : Addr) (pm : Value) (c : Addr) (ct : Value) (as : List Addr) (h h9 : Hs) (u : Ex), τ[ia]? = some (some (.ref f)) ∧ G f = some (.ext (rc.clo l f pm c ct)) ∧ G c = some (LamX.CodeO c (lamN X)) ∧ ERel rc as G env σ ∧ SRel rc as h G ∧
    k.lamb l env h = .exc u h9 ∧ k.sub u.cls m = true ∧ Hs.pre h h9 = true ∧ ∀ G', Stp as G as G' → SRel rc as h G' → R false G'
  refine lc_link (wi := tI rc W (evI (.e (.var i)) k)) (g := tG rc (.v ia)) (tt := tt) (te := fun _ _ _ => False) hc hN I (i_e hK (e_var hi vi i1 i2)) ok (fun s1 H1 fp I1 f1 => g_v hN hia (.inl lia) (.inr lia)) (fun s1 H1 fp I1 f1 => pts_one ?_)
    (fun _ _ _ _ _ => ⟨fun _ _ _ _ _ _ z => z.elim⟩) (fun _ => rfl) ?_
  · have ha : PE (blkAt X scope s1 H1 fp) (.Call (.Name x p4) [.Name act p5] [] p6) (fun τ G Q => ∃ (l : Nat) (f : Addr) (pm : Value) (c : Addr) (ct : Value) (as : List Addr) (h h9 : Hs) (u : Ex), τ[ia]? = some (some (.ref f)) ∧ G f = some (.ext (rc.clo l f pm c ct)) ∧ G c = some (LamX.CodeO c (lamN X)) ∧ ERel rc as G env σ ∧ SRel rc as h G ∧
        k.lamb l env h = .exc u h9 ∧ k.sub u.cls m = true ∧ Hs.pre h h9 = true ∧ ∀ G', Stp as G as G' → SRel rc as h G' → Q (.bl true) G') := by
      refine ⟨fun pinsB sB τ G Q J t => ?_⟩
      obtain ⟨l, f, pm, c, ct, as, h, h9, u, t1, t2, t3, t4, t5, t6, t7, t8, t9⟩ := t
      exact (e_nothT (n := n) (pm := pm) (ct := ct) (φ := rc.clo l f pm c ct) (gd := k.lamb l) I1 f1 hK hex gl gm F B S hNa hv gy my lm hr hg hia via o1 o2 t6 t7 t8 (fun h hp => hclo l f pm c ct h hp) dx da dd dy).run pinsB sB τ G Q J ⟨t1, t2, t3, t4, t5, t9⟩
    refine (pt_not (pt_truth ha fun _ => rfl)).imp ?_
    rintro τ G R ⟨l, f, pm, c, ct, as, h, h9, u, t1, t2, t3, t4, t5, t6, t7, t8, t9⟩
    exact ⟨l, f, pm, c, ct, as, h, h9, u, t1, t2, t3, t4, t5, t6, t7, t8, fun G' st S' => ⟨true, rfl, t9 G' st S'⟩⟩
  · refine ⟨as, env, h, E, S0, ?_⟩
    rw [ei]
    intro as0 H0 s0 S0' J wk Dd hD
    have hD0 : Nw H Dd := s0.was S0' hD
    obtain ⟨s1, S1⟩ := newObj (o := .lst []) S0' hD
    have gk : ∀ p : List D × Gd, p = (ds, [(nn, ds)]) → p.2.ok h = true := fun p e => by
      subst e
      simp [Gd.ok, gd1, e2]
    refine ⟨fun j m' H1 => m' = ds.length - j ∧ j ≤ ds.length ∧ Stp as0 H0 as0 H1 ∧ SRel rc as0 h H1 ∧ H1 Dd = some (.lst []), ⟨_, rfl, Nat.zero_le _, s1, S1, upd_same⟩, ?_⟩
    rintro j m' H1 ⟨rfl, hj, s2, S2, eD⟩
    have nD : Dd ∉ as0 := S0'.free hD
    by_cases hlt : j < ds.length
    · right
      obtain ⟨d, ed, edr⟩ := drop_get hlt
      obtain ⟨t1, t2⟩ := (wk.turn j as0 H1 h s2 S2 (gk _ rfl)).1 d ed
      have rf := List.all_eq_true.mp e3 d (List.mem_of_getElem? ed)
      have rf : ∃ l u h9, d = .clo l ∧ k.lamb l env h = .exc u h9 ∧ k.sub u.cls m = true ∧ Hs.pre h h9 = true := by
        unfold refused at rf
        split at rf
        · split at rf
          · obtain ⟨r1, r2⟩ := Bool.and_eq_true_iff.mp rf
            exact ⟨_, _, _, rfl, by assumption, r1, r2⟩
          · cases rf
        · cases rf
      obtain ⟨l, u, h9, rfl, r1, r2, r3⟩ := rf
      refine ⟨t1, fun H' => Stp as0 H0 as0 H' ∧ SRel rc as0 h H' ∧ H' Dd = some (.lst []), fun H' z => ⟨_, by omega, rfl, by omega, z⟩, fun v H2 hy => ?_⟩
      obtain ⟨sy, Sy, ry, ky⟩ := t2 v H2 hy
      refine ⟨as0, h, .clo l, List.replicate σ.length none, (List.replicate σ.length none).set ia (some (.clo l)), Sy, ry, ⟨by rw [wipe_length, List.length_replicate]; exact Nat.le_refl _, fun j d e => ?_⟩, rfl, fun σ2 E2 m2 => ⟨wipe_same m2, ?_⟩⟩
      · rw [List.getElem?_replicate] at e
        split at e <;> cases e
      · obtain ⟨w, ew, rw_⟩ := E2.2 ia (.clo l) (List.getElem?_set_self (by rw [List.length_replicate]; exact lσ))
        simp only [RD] at rw_
        obtain ⟨f, pm, c, ct, rfl, _, _, q1, q2⟩ := rw_
        refine ⟨l, f, pm, c, ct, as0, h, h9, u, ew, q1, hcq ▸ q2, ((E.mono S0 s0).mono S0' s2).mono S2 sy, Sy, r1, r2, r3, fun G' st S' => ?_⟩
        have s13 := sy.trans st
        exact ⟨s2.trans s13, S', s13.ext Dd _ eD (.inl nD) fun ps e => nomatch e⟩
    · left
      have ej : j = ds.length := by omega
      subst ej
      refine ⟨(wk.turn _ as0 H1 h s2 S2 (gk _ rfl)).2 rfl, ?_⟩
      exact q as0 H1 (s0.trans s2) S2 Dd [] eD nD hD0 RDs.nil
end
end MI
end
section
/-! MR: is a term of the mini interpreter the row's own term? -/
namespace MI
open PySem PySem.Spec PyProof.Rows L2
/-- where a term stands: no exception is handled there; in a def's own block; lambdas may stand there; names in cells may be stored; how a lambda that is kept is looked at -/
structure Md where
  calm : Bool
  top : Bool
  lam : Bool
  cel : Bool
  sto : Option (Nat → Scope → Expr → Bool)
def glB (sc : Scope) (x : Str) : Bool := decide (sc.names.lookup x = some .globalImplicit)
def visB (sc : Scope) (x : Str) : Bool := decide (sc.names.lookup x = some .local) || decide (sc.names.lookup x = some .cell) || decide (sc.names.lookup x = some .free)
def locB (sc : Scope) (c : Bool) (x : Str) : Bool := decide (sc.names.lookup x = some .local) || (c && decide (sc.names.lookup x = some .cell))
/-- a block's names as they are looked up -/
def relS (s sc : Scope) : Scope := { s with names := s.names.map fun (n, k) => if k == .free && sc.kind == .function && sc.names.lookup n == some .cell then (n, .cell) else (n, k) }
/-- no name that means something of its own -/
def ownB (x : Str) : Bool := !(x == ("__debug__" : Str)) && !(x == ("__classdict__" : Str))
def nmB (N : List Str) (i : Nat) (x : Str) : Bool := decide (N[i]? = some x)
/-- a built-in's name -/
def bltB (M : Pg) (sc : Scope) (x y : Str) : Bool := decide (x = y) && glB sc x && decide (x ∈ M.blt)
def defB (M : Pg) (m : Nat) (x : Str) (np : Option Nat) : Bool := match M.fns[m]? with
  | some f => decide (f.name = x) && !(x == ("__debug__" : Str)) && (match np with
    | some n => f.np == n
    | none => true)
  | none => false
def litB : D → Const → Bool
  | .none, .none => true
  | .bool a, .bool b => a == b
  | .int a, .int b => a == b
  | .str a, .str b => decide (a = b)
  | _, _ => false
def noArgs : Arguments → Bool
  | ⟨[], [], none, [], [], none, []⟩ => true
  | _ => false
def ownOf (N : List Str) (t : Tg) : List (Str × Nat) := t.slots.map fun i => (N.getD i "", i)
/-- a test's form is not 'x if c else y' -/
def tOk : Expr → Bool
  | .IfExp .. => false
  | _ => true
def setB : Expr → Bool
  | .Set .. => false
  | _ => true
mutual
def mG (N : List Str) (sc : Scope) (c : Bool) : Tg → Expr → Bool
  | .v i, e => (match e with
    | .Name x _ => nmB N i x && locB sc c x
    | _ => false)
  | .t ts, e => (match e with
    | .Tuple es _ _ => mGs N sc c ts es && noStar es && decide (es.length = ts.length)
    | _ => false)
def mGs (N : List Str) (sc : Scope) (c : Bool) : List Tg → List Expr → Bool
  | [], es => (match es with
    | [] => true
    | _ => false)
  | t :: ts, es => (match es with
    | e :: es => mG N sc c t e && mGs N sc c ts es && noStar (e :: es)
    | _ => false)
end
section
variable (M : Pg) (N : List Str)
mutual
def mE (sc : Scope) (f : Md) : E → Expr → Bool
  | .var i, e => (match e with
    | .Name x _ => nmB N i x && visB sc x && ownB x
    | _ => false)
  | .lit d, e => (match e with
    | .Constant c _ _ => litB d c
    | _ => false)
  | .glob m, e => (match e with
    | .Name x _ => glB sc x && ownB x && decide ((M.con[m]?).map (·.1) = some x)
    | _ => false)
  | .fnv m, e => (match e with
    | .Name x _ => glB sc x && defB M m x none
    | _ => false)
  | .noth m d, e => (match e with
    | .Call (.Name x _) [.Lambda ps b s _] [] _ => f.lam && f.calm && glB sc x && noArgs ps && LamX.lamSB sc s && (M.ask.any fun q => q.2 == m && defB M q.1 x (some 1)) && mE s ⟨true, false, false, false, none⟩ d b
    | _ => false)
  | .lam l, e => (match f.sto with
    | some ok => (match e with
      | .Lambda ps b s _ => f.lam && noArgs ps && LamX.lamSB sc s && ok l s b
      | _ => false)
    | none => false)
  | .tup es, e => (match e with
    | .Tuple xs _ _ => mEs sc f es xs && noStar xs && decide (xs.length ≤ 1000)
    | _ => false)
  | .new l, e => mL sc f l e
  | .bin o a b, e => (match e with
    | .BinOp x p y _ => decide (p = o.py) && mE sc f a x && mE sc f b y
    | _ => false)
  | .neg a, e => (match e with
    | .UnaryOp .USub x _ => mE sc f a x
    | _ => false)
  | .not a, e => (match e with
    | .UnaryOp .Not x _ => mE sc f a x && tOk x
    | _ => false)
  | .bop t es, e => (match e with
    | .BoolOp o (x :: xs) _ => decide (o = bopPy t) && mEs sc f es (x :: xs) && (x :: xs).all tOk
    | _ => false)
  | .cmp o a b, e => (match e with
    | .Compare x [p] [y] _ => decide (p = o.py) && mE sc f a x && mE sc f b y && setB y
    | _ => false)
  | .chain o p a b c, e => (match e with
    | .Compare x [q, r] [y, z] _ => decide (q = o.py) && decide (r = p.py) && mE sc f a x && mE sc f b y && mE sc f c z && setB z
    | _ => false)
  | .ife t a b, e => (match e with
    | .IfExp w x y _ => mE sc f t w && tOk w && mE sc f a x && mE sc f b y
    | _ => false)
  | .call m es, e => (match e with
    | .Call (.Name x _) xs [] _ => f.calm && glB sc x && defB M m x (some es.len) && mEs sc f es xs && noStar xs && decide (xs.length = es.len)
    | _ => false)
  | .callv i es, e => (match e with
    | .Call (.Name x _) (y :: ys) [] _ => f.calm && nmB N i x && visB sc x && ownB x && mEs sc f es (y :: ys) && noStar (y :: ys)
    | _ => false)
  | .isi a t, e => (match e with
    | .Call (.Name x _) [y, .Name z _] [] _ => bltB M sc x "isinstance" && bltB M sc z t.nm && mE sc f a y && noStar [y]
    | _ => false)
  | .f1 g a, e => (match e with
    | .Call (.Name x _) [y] [] _ => bltB M sc x g.nm && mE sc f a y && noStar [y]
    | _ => false)
  | .f2 g a b, e => (match e with
    | .Call (.Name x _) [y, z] [] _ => f.calm && bltB M sc x g.nm && mE sc f a y && mE sc f b z && noStar [y, z]
    | _ => false)
  | .fl g a, e => (match e with
    | .Call (.Name x _) [y] [] _ => f.calm && bltB M sc x g.nm && mA sc f a y && noStar [y]
    | _ => false)
  | .idx a b, e => (match e with
    | .Subscript x y _ => mE sc f a x && mE sc f b y && notSlice y
    | _ => false)
  | .sl a lo hi, e => (match e with
    | .Subscript x (.Slice l u none _) _ => mE sc f a x && mO sc f lo l && mO sc f hi u
    | _ => false)
  | .rev a, e => (match e with
    | .Subscript x (.Slice none none (some (.UnaryOp .USub (.Constant (.int 1) _ _) _)) _) _ => mE sc f a x
    | _ => false)
  | .meth m r es, e => (match e with
    | .Call (.Attribute o nm ap) (x :: xs) [] cp => (match m with
      | .append => decide (nm = "append")
      | .extend => decide (nm = "extend")
      | _ => false) && mE sc f r o && mEs sc f es (x :: xs) && noStar (x :: xs) && plainRecv o && decide (xs.length < 20) && (ap.endLine == cp.line)
    | _ => false)
def mO (sc : Scope) (f : Md) : O → Option Expr → Bool
  | .none, e => (match e with
    | none => true
    | _ => false)
  | .some a, e => (match e with
    | some x => mE sc f a x
    | none => false)
def mEs (sc : Scope) (f : Md) : Es → List Expr → Bool
  | .nil, es => (match es with
    | [] => true
    | _ => false)
  | .cons a as, es => (match es with
    | x :: xs => mE sc f a x && mEs sc f as xs && noStar (x :: xs)
    | [] => false)
/-- an argument that is a list -/
def mA (sc : Scope) (f : Md) : It → Expr → Bool
  | .e a, e => mE sc f a e
  | .l l, e => mL sc f l e
  | _, _ => false
def mL (sc : Scope) (f : Md) : L → Expr → Bool
  | .disp es, e => (match e with
    | .List xs _ => mEs sc f es xs && noStar xs && decide (xs.length ≤ 1000)
    | _ => false)
  | .comp d t it cs, e => (match e with
    | .ListComp y [⟨tg, x, ifs, 0⟩] s _ => f.calm && mI sc f it tg x && setB x && mG N (relS s sc) false t tg && mC (relS s sc) f cs ifs && mE (relS s sc) ⟨f.calm, false, false, false, none⟩ d y && blkC N sc s (ownOf N t)
    | _ => false)
  | .acts i m, e => (match f.sto with
    | some _ => (match e with
      | .ListComp (.Name y _) [⟨.Name z _, .Name w _, [.UnaryOp .Not (.Call (.Name x _) [.Name v _] [] _) _], 0⟩] s _ => f.lam && f.calm && nmB N i w && visB sc w && ownB w &&
        nmB N (N.idxOf z) z && locB (relS s sc) false z && visB (relS s sc) z && ownB z && decide (y = z) && decide (v = z) && blkC N sc s [(z, N.idxOf z)] && glB (relS s sc) x && (M.ask.any fun q => q.2 == m && defB M q.1 x (some 1))
      | _ => false)
    | none => false)
  | _, _ => false
def mC (s : Scope) (f : Md) : Es → List Expr → Bool
  | .nil, es => (match es with
    | [] => true
    | _ => false)
  | .cons a as, es => (match as, es with
    | .nil, [x] => mE s ⟨f.calm, false, false, false, none⟩ a x && tOk x
    | _, _ => false)
/-- what is walked; tg: the target -/
def mI (sc : Scope) (f : Md) : It → Expr → Expr → Bool
  | .e a, tg, e => mE sc f a e
  | .l l, tg, e => mL sc f l e
  | .range1 a, tg, e => (match e with
    | .Call (.Name x _) [y] [] _ => bltB M sc x "range" && mE sc f a y && noStar [y]
    | _ => false)
  | .range2 a b, tg, e => (match e with
    | .Call (.Name x _) [y, z] [] _ => bltB M sc x "range" && mE sc f a y && mE sc f b z && noStar [y, z]
    | _ => false)
  | .zip a b, tg, e => (match tg, e with
    | .Tuple .., .Call (.Name x _) [y, z] [] _ => bltB M sc x "zip" && mE sc f a y && mE sc f b z && noStar [y, z]
    | _, _ => false)
  | .enum a, tg, e => (match tg, e with
    | .Tuple .., .Call (.Name x _) [y] [] _ => bltB M sc x "enumerate" && mE sc f a y && noStar [y]
    | _, _ => false)
  | .enumL l, tg, e => (match tg, e with
    | .Tuple .., .Call (.Name x _) [y] [] _ => bltB M sc x "enumerate" && mL sc f l y && noStar [y]
    | _, _ => false)
  | .enumZ a b, tg, e => (match tg, e with
    | .Tuple .., .Call (.Name x _) [.Call (.Name u _) [y, z] [] _] [] _ => bltB M sc x "enumerate" && bltB M sc u "zip" && mE sc f a y && mE sc f b z && noStar [y, z]
    | _, _ => false)
end
end
end MI
end
section
/-! MS: a term that is the row's own term says what the row's does. -/
namespace MI
open PySem PySem.Spec PyProof.Rows L2
/-- the module's names -/
structure Gm (M : Pg) (rc : Rc) (mg : Str → Option Value) : Prop where
  blt : ∀ x ∈ M.blt, mg x = none
  fn : ∀ (m : Nat) (fd : Fd), M.fns[m]? = some fd → mg fd.name = some (.ref (rc.fa m)) ∧ m < rc.nf
  con : ∀ (m : Nat) (p : Str × D), M.con[m]? = some p → ∃ v u, mg p.1 = some u ∧ RelV v u ∧ Const_ rc p.2 v
  cls : ∀ (m : Nat) (y : Str), M.cls[m]? = some y → Xcls rc.K mg rc y m
  exm : ∀ a b, a < rc.nx → b < rc.nx → PySem.W.exmOne rc.K (.ref (rc.ca a)) (.ref (rc.ca b)) = some (M.sub a b)
  keep : ∀ m, m < rc.nf → PySem.W.keepIn rc.K (.ref (rc.fa m)) = true
/-- the defs that a lambda may be handed to -/
structure AskOk (M : Pg) (rc : Rc) (X : Cx) (g c : Nat) : Prop where
  ok : ∃ (fd : Fd) (pg : Arguments) (sg : Scope) (a y : Str) (j1 j2 : Nat) (qs : List Pos) (f : FuncData) (N : List Str), M.fns[g]? = some fd ∧ M.cls[c]? = some y ∧ FunD X.K fd.name fd.name pg (askB a y j1 j2 qs) sg [] [] (rc.fa g) f ∧ Binds X.K f [a] [] ∧
    FnScope N [a] sg ∧ N[0]? = some a ∧ Vis sg a ∧ sg.names.lookup y = some .globalImplicit ∧ (a == ("__debug__" : Str)) = false ∧ (a == ("__classdict__" : Str)) = false
/-- how the lambdas that are kept run -/
def StoOk (rc : Rc) (X : Cx) (k : Ct) (ok : Nat → Scope → Expr → Bool) : Prop :=
  ∃ n, Room (n + 2) X.A ∧ ∀ (l : Nat) (ls : Scope) (body : Expr), ok l ls body = true → LamX.LamS X.env.scope ls → ∀ (A : Around) (out : List PySem.Env) (s : Shared) (H : Hp) (E : XK) (f c : Addr), Room n (A.deeper (LamX.lamEnv X ls s.heap.objs.size f c)) → A.guards = some [] →
    PE (LamX.lamCx X A out s H E ls f c) body (tE rc (fun cls dd _ H' => E cls dd H') (k.lamb l))
/-- where a term runs -/
structure Rm (M : Pg) (rc : Rc) (k : Ct) (N : List Str) (sc : Scope) (f : Md) (X : Cx) (W : WX) : Prop where
  hK : rc.K = X.K
  hN : X.N = N
  nd : N.Nodup
  hs : X.env.scope = sc
  calm : f.calm = true → X.calm = true
  un : X.A.units + 66 < cLine
  gd : X.A.guards = some []
  fn : f.cel = true → ∀ x, X.fn x = true
  knd : f.cel = true → sc.kind = .function
  tk : Takes X W
  po : PassesOwn (model X.prog X.w) X.A X.env X.xe
  top : f.top = true → X.stack = X.env :: X.outer ∧ X.env.frame = some X.env.locals ∧ sc.kind = .function
  gm : Gm M rc X.mg
  con : ∀ (m : Nat) (p : Str × D), M.con[m]? = some p → k.consts[m]? = some p.2
  sub : k.sub = M.sub
  fns : f.calm = true → ∃ n, Room n X.A ∧ ∀ m fd, M.fns[m]? = some fd → FnK X rc n m fd.np (k.call k.off m)
  len : ∀ o m ds h, k.call o m ds h ≠ .stuck → ∃ fd, M.fns[m]? = some fd ∧ ds.length = fd.np
  lam : f.lam = true → ∃ n c P, Room (n + 2) X.A ∧ (∀ m fd, M.fns[m]? = some fd → FnK X rc n m fd.np (k.call (k.off + 2) m)) ∧ LamX.TabB X.base X.mg c P ∧ X.env.code = .ref c ∧ (P, lamN X) ∈ rc.T ∧ (∀ p ∈ rc.T, p.1 = P → p.2 = lamN X) ∧ ∀ q ∈ M.ask, AskOk M rc X q.1 q.2
  sto : ∀ ok, f.sto = some ok → rc.cq = lamN X ∧ rc.clo = cloP X ok ∧ StoOk rc X k ok
theorem glB_ok {X : Cx} {sc : Scope} {x : Str} (hs : X.env.scope = sc) (h : glB sc x = true) : Gl X x := by
  have h := of_decide_eq_true h
  rw [← hs] at h
  exact h
theorem visB_ok {X : Cx} {sc : Scope} {x : Str} (hs : X.env.scope = sc) (h : visB sc x = true) : Vis X.env.scope x := by
  unfold visB at h
  simp only [Bool.or_eq_true, decide_eq_true_eq] at h
  rw [hs]
  rcases h with (h | h) | h
  · exact .inl h
  · exact .inr (.inl h)
  · exact .inr (.inr h)
theorem locB_ok {X : Cx} {sc : Scope} {x : Str} {c : Bool} (hs : X.env.scope = sc) (hc : c = true → ∀ x, X.fn x = true) (h : locB sc c x = true) : Loc X.env.scope x ∧ (X.fn x = true ∨ X.env.scope.names.lookup x = some .local) := by
  unfold locB at h
  simp only [Bool.or_eq_true, Bool.and_eq_true, decide_eq_true_eq] at h
  rw [hs]
  rcases h with h | ⟨h1, h2⟩
  · exact ⟨.inl h, .inr h⟩
  · exact ⟨.inr h2, .inl (hc h1 x)⟩
theorem ownB_ok {x : Str} (h : ownB x = true) : (x == ("__debug__" : Str)) = false ∧ (x == ("__classdict__" : Str)) = false := by
  unfold ownB at h
  simpa only [Bool.and_eq_true, Bool.not_eq_true'] using h
theorem an {a b : Bool} (h : (a && b) = true) : a = true ∧ b = true := Bool.and_eq_true_iff.mp h
section
variable {M : Pg} {rc : Rc} {k : Ct} {N : List Str} {sc : Scope} {f : Md} {X : Cx} {W : WX}
theorem Rm.blt_ (r : Rm M rc k N sc f X W) {x y : Str} {v : Value} (h : bltB M sc x y = true) (b : bootBuiltins y = some v) (n : y ≠ "__name__") (d : (y == ("__debug__" : Str)) = false) : Blt X x v := by
  obtain ⟨h, h3⟩ := an h
  obtain ⟨h1, h2⟩ := an h
  have e := of_decide_eq_true h1
  subst e
  exact ⟨glB_ok r.hs h2, r.gm.blt _ (of_decide_eq_true h3), b, n, d⟩
theorem Rm.def_ (r : Rm M rc k N sc f X W) {m : Nat} {x : Str} {np : Option Nat} (h : defB M m x np = true) : ∃ fd, M.fns[m]? = some fd ∧ fd.name = x ∧ (x == ("__debug__" : Str)) = false ∧ ∀ n, np = some n → fd.np = n := by
  unfold defB at h
  split at h
  · rename_i fd hf
    obtain ⟨h, h3⟩ := an h
    obtain ⟨h1, h2⟩ := an h
    refine ⟨fd, hf, of_decide_eq_true h1, by simpa using h2, fun n e => ?_⟩
    subst e
    simpa using h3
  · cases h
/-- a comprehension's block -/
theorem Rm.blk (r : Rm M rc k N sc f X W) {s : Shared} {H : Hp} {C : Addr} {cl : List (Str × Addr)} {fp : List Addr} {scope : Scope} : Rm M rc k N (relS scope sc) ⟨f.calm, false, false, false, none⟩ (X.blk s H scope (compEnvC scope cl C X.env) fp) WF where
  hK := r.hK
  hN := r.hN
  nd := r.nd
  hs := by
    show relabel scope X.env = relS scope sc
    unfold relabel relS PySem.Env.kindOf
    rw [r.hs]
  calm := r.calm
  un := r.un
  gd := r.gd
  fn := fun z => by cases z
  knd := fun z => by cases z
  tk := takesF
  po := PassesOwn.never
  top := fun z => by cases z
  gm := r.gm
  con := r.con
  sub := r.sub
  fns := fun z => by
    obtain ⟨n, h1, h2⟩ := r.fns z
    exact ⟨n, h1, fun m fd h => ⟨(h2 m fd h).keep, (h2 m fd h).ok⟩⟩
  len := r.len
  lam := fun z => by cases z
  sto := fun _ z => by cases z
/-- a lambda's body -/
theorem Rm.lam_ {n : Nat} (r : Rm M rc k N sc f X W) {A : Around} {out : List PySem.Env} {s : Shared} {H : Hp} {E : XK} {fa c : Addr} {scope : Scope}
    (hr : Room n (A.deeper (LamX.lamEnv X scope s.heap.objs.size fa c))) (hg : A.guards = some []) (hf : ∀ m fd, M.fns[m]? = some fd → FnK X rc n m fd.np (k.call (k.off + 2) m))
    {k' : Ct} (e1 : k'.call = k.call) (e2 : k'.off = k.off + 2) (e3 : k'.consts = k.consts) (e4 : k'.sub = k.sub) :
    Rm M rc k' N scope ⟨true, false, false, false, none⟩ (LamX.lamCx X A out s H E scope fa c) (fun cls dd _ H' => E cls dd H') where
  hK := r.hK
  hN := r.hN
  nd := r.nd
  hs := rfl
  calm := fun _ => rfl
  un := by
    have := hr.un
    show (A.deeper _).units + 66 < _
    omega
  gd := hg
  fn := fun z => by cases z
  knd := fun z => by cases z
  tk := takes_of rfl rfl rfl rfl
  po := passes_of (X := LamX.lamCx X A out s H E scope fa c) (K := fun e s'' => L2.CX X.prog X.w out H s E e s'') rfl
  top := fun z => by cases z
  gm := r.gm
  con := fun m p h => e3 ▸ r.con m p h
  sub := e4.trans r.sub
  fns := fun _ => ⟨n, hr, fun m fd h => by
    rw [e1, e2]
    exact ⟨(hf m fd h).keep, (hf m fd h).ok⟩⟩
  len := e1 ▸ r.len
  lam := fun z => by cases z
  sto := fun _ z => by cases z
end
end MI
end
section
/-! MT: the terms. -/
namespace MI
open PySem PySem.Spec PyProof.Rows L2
section
variable {M : Pg} {rc : Rc} {N : List Str}
/-- a term, as a value and as a test -/
def Both (X : Cx) (rc : Rc) (W : WX) (e : Expr) (g : Env → Hs → R D) : Prop := PE X e (tE rc W g) ∧ (tOk e = true → PT X e (tT rc W fun env h => tst0 (g env h)))
theorem Both.of {X : Cx} {W : WX} {e : Expr} {g : Env → Hs → R D} (hK : rc.K = X.K) (p : PE X e (tE rc W g)) (he : ∀ whole, isTrue e X.env whole = (do let v ← whole; standAt e.pos; holding [v] (truthy v))) : Both X rc W e g :=
  ⟨p, fun _ => t_any hK p he⟩
theorem mEs_star {sc : Scope} {f : Md} : ∀ {es : Es} {xs : List Expr}, mEs M N sc f es xs = true → noStar xs = true ∧ es.len = xs.length
  | .nil, xs, h => by
    cases xs with
    | nil => exact ⟨rfl, rfl⟩
    | cons => simp [mEs] at h
  | .cons a as, xs, h => by
    cases xs with
    | nil => simp [mEs] at h
    | cons x xs =>
      simp only [mEs, Bool.and_eq_true] at h
      exact ⟨h.2, by simp [Es.len, (mEs_star h.1.2).2]⟩
theorem sG {sc : Scope} {f : Md} {X : Cx} {W : WX} {k : Ct} (r : Rm M rc k N sc f X W) (hc : X.calm = true) : (∀ (t : Tg) {e : Expr}, mG N sc f.cel t e = true → PG X e (tG rc t)) ∧ ∀ (ts : List Tg) {es : List Expr}, mGs N sc f.cel ts es = true → PGs X es (tGs rc ts) := by
  have key : ∀ n : Nat, (∀ (t : Tg) {e : Expr}, sizeOf t ≤ n → mG N sc f.cel t e = true → PG X e (tG rc t)) ∧ ∀ (ts : List Tg) {es : List Expr}, sizeOf ts ≤ n → mGs N sc f.cel ts es = true → PGs X es (tGs rc ts) := by
    intro n
    induction n with
    | zero =>
      refine ⟨fun t _ z => ?_, fun ts _ z => ?_⟩
      · cases t <;> simp at z
      · cases ts <;> simp at z
    | succ n ih =>
      refine ⟨fun t e z h => ?_, fun ts es z h => ?_⟩
      · cases t with
        | v i =>
          unfold mG at h
          split at h
          · obtain ⟨h1, h2⟩ := an h
            obtain ⟨l1, l2⟩ := locB_ok r.hs r.fn h2
            exact g_v (r.hN ▸ r.nd) (r.hN ▸ of_decide_eq_true h1) l1 l2
          · cases h
        | t ts =>
          unfold mG at h
          split at h
          · obtain ⟨h, h3⟩ := an h
            obtain ⟨h1, h2⟩ := an h
            exact g_t r.hK hc (ih.2 ts (by simp at z; omega) h1) h2 (of_decide_eq_true h3)
          · cases h
      · cases ts with
        | nil =>
          unfold mGs at h
          split at h
          · exact gs_nil
          · cases h
        | cons t ts =>
          unfold mGs at h
          split at h
          · obtain ⟨h, h3⟩ := an h
            obtain ⟨h1, h2⟩ := an h
            exact gs_cons (ih.1 t (by simp at z; omega) h1) (ih.2 ts (by simp at z; omega) h2) h3
          · cases h
  exact ⟨fun t e => (key _).1 t (Nat.le_refl _), fun ts es => (key _).2 ts (Nat.le_refl _)⟩
theorem bltB_eq {sc : Scope} {x y : Str} (h : bltB M sc x y = true) : x = y := of_decide_eq_true (an (an h).1).1
theorem noMarks {op : CmpOp} {e : Expr} (h : setB e = true) : behindInMarks op e = false := by
  cases e <;> first
    | rfl
    | (simp [setB] at h; done)
theorem notSet {e : Expr} {env : PySem.Env} (h : setB e = true) : ∀ x, foldedSetIterable e env x = pure x := by
  intro x
  cases e <;> first
    | rfl
    | (simp [setB] at h; done)
/-- what a chain of and, or asks of its parts -/
def AllB (X : Cx) (rc : Rc) (W : WX) (k : Ct) : Es → List Expr → Prop
  | .nil, [] => True
  | .cons a as, x :: xs => Both X rc W x (evE a k) ∧ AllB X rc W k as xs
  | _, _ => False
theorem AllB.args {X : Cx} {W : WX} {k : Ct} : ∀ {es : Es} {xs : List Expr}, AllB X rc W k es xs → noStar xs = true → PA X xs (tA rc W (evEs es k))
  | .nil, [], _, _ => a_nil
  | .cons a as, x :: xs, h, hs => a_cons h.1.1 (AllB.args h.2 (noStar_tail hs)) (star_cons hs)
theorem AllB.bop {X : Cx} {W : WX} {k : Ct} {t : Bool} {pos : Pos} (hK : rc.K = X.K) : ∀ {es : Es} {x : Expr} {xs : List Expr}, AllB X rc W k es (x :: xs) → (x :: xs).all tOk = true →
    PE X (.BoolOp (bopPy t) (x :: xs) pos) (tE rc W (evB t es k)) ∧ PW X (.BoolOp (bopPy t) (x :: xs) pos) (tT rc W fun env h => tst0 (evB t es k env h))
  | .nil, _, _, h, _ => h.elim
  | .cons a .nil, x, [], h, ho => by
    simp only [List.all_cons, List.all_nil, Bool.and_true] at ho
    exact ⟨e_bop1 h.1.1, t_bop1 (h.1.2 ho)⟩
  | .cons a .nil, x, _ :: _, h, _ => h.2.elim
  | .cons a (.cons b bs), x, [], h, _ => h.2.elim
  | .cons a (.cons b bs), x, y :: ys, h, ho => by
    rw [List.all_cons] at ho
    obtain ⟨h1, h2⟩ := an ho
    obtain ⟨p1, p2⟩ := AllB.bop (t := t) (pos := pos) hK h.2 h2
    exact ⟨e_bop hK h.1.1 p1, t_bop (h.1.2 h1) p2⟩
theorem tests_nil {X : Cx} {k : Ct} : PTs X [] (tCs rc WF .nil k) := cs_nil
mutual
theorem sE : ∀ (x : E) {k : Ct} {sc : Scope} {f : Md} {X : Cx} {W : WX} {e : Expr}, Rm M rc k N sc f X W → mE M N sc f x e = true → Both X rc W e (evE x k)
  | .var i, k, sc, f, X, W, e, r, h => by
    unfold mE at h
    split at h
    · obtain ⟨h, h3⟩ := an h
      obtain ⟨h1, h2⟩ := an h
      obtain ⟨o1, o2⟩ := ownB_ok h3
      exact .of r.hK (e_var (r.hN ▸ of_decide_eq_true h1) (visB_ok r.hs h2) o1 o2) fun _ => rfl
    · cases h
  | .lit d, k, sc, f, X, W, e, r, h => by
    unfold mE at h
    split at h
    · rename_i c j p
      cases d <;> cases c <;> simp only [litB, Bool.false_eq_true, decide_eq_true_eq, beq_iff_eq] at h
      · exact .of r.hK e_none fun _ => rfl
      · subst h
        exact .of r.hK e_bool fun _ => rfl
      · subst h
        exact .of r.hK e_int fun _ => rfl
      · subst h
        exact .of r.hK e_str fun _ => rfl
    · cases h
  | .glob m, k, sc, f, X, W, e, r, h => by
    unfold mE at h
    split at h
    · obtain ⟨h, h3⟩ := an h
      obtain ⟨h1, h2⟩ := an h
      obtain ⟨p, hp, ep⟩ := Option.map_eq_some_iff.mp (of_decide_eq_true h3)
      obtain ⟨v, u, m1, m2, m3⟩ := r.gm.con m p hp
      subst ep
      exact .of r.hK (e_glob (r.con m p hp) (glB_ok r.hs h1) m1 m2 m3 (ownB_ok h2).1) fun _ => rfl
    · cases h
  | .fnv m, k, sc, f, X, W, e, r, h => by
    unfold mE at h
    split at h
    · obtain ⟨h1, h2⟩ := an h
      obtain ⟨fd, d1, rfl, d3, _⟩ := r.def_ h2
      obtain ⟨g1, g2⟩ := r.gm.fn m fd d1
      exact .of r.hK (e_fnv g2 (glB_ok r.hs h1) g1 d3) fun _ => rfl
    · cases h
  | .noth m d, k, sc, f, X, W, e, r, h => by
    unfold mE at h
    split at h
    · rename_i x p ps b s lp pos
      obtain ⟨h, h7⟩ := an h
      obtain ⟨h, h6⟩ := an h
      obtain ⟨h, h5⟩ := an h
      obtain ⟨h, h4⟩ := an h
      obtain ⟨h, h3⟩ := an h
      obtain ⟨h1, h2⟩ := an h
      obtain ⟨n, c, P, hr, hf, TB, hc, hT, hu, ask⟩ := r.lam h1
      obtain ⟨q, hq, hd⟩ := List.any_eq_true.mp h6
      obtain ⟨hq2, hd⟩ := an hd
      have hq2 : q.2 = m := by simpa using hq2
      obtain ⟨fd0, pg, sg, a, y, j1, j2, qs, fd, Ng, f1, f2, F, B, S, n0, va, gy, da, dd⟩ := (ask q hq).ok
      obtain ⟨fd1, d1, d2, d3, _⟩ := r.def_ hd
      rw [f1] at d1
      cases d1
      have hps : ps = ⟨[], [], none, [], [], none, []⟩ := by
        unfold noArgs at h4
        split at h4
        · rfl
        · cases h4
      subst hps hq2
      have xc := r.gm.cls _ _ f2
      have L := LamX.lamS_by h5
      refine .of r.hK (e_noth (n := n) r.hK (fun a b ha hb => r.hK ▸ r.sub ▸ r.gm.exm a b ha hb) (glB_ok r.hs h3) (d2 ▸ (r.gm.fn _ _ f1).1) (d2 ▸ F) B S n0 va gy xc.mg xc.lt TB hc hT hu hr r.gd (r.hs.symm ▸ L) rfl (fun _ _ _ _ _ => rfl)
        (fun A out s H E fa c hr hg => (sE d (r.lam_ hr hg hf (k' := { k with off := k.off + 2 }) rfl rfl rfl rfl) h7).1) d3 da dd xc.db) fun _ => rfl
    · cases h
  | .lam l, k, sc, f, X, W, e, r, h => by
    unfold mE at h
    split at h
    · rename_i ok ho
      split at h
      · rename_i ps b s pos
        obtain ⟨h, h4⟩ := an h
        obtain ⟨h, h3⟩ := an h
        obtain ⟨h1, h2⟩ := an h
        have hps : ps = noPs := by
          unfold noArgs at h2
          split at h2
          · rfl
          · cases h2
        subst hps
        obtain ⟨n, c, P, hr, hf, TB, hc, hT, hu, ask⟩ := r.lam h1
        obtain ⟨s1, s2, s3⟩ := r.sto ok ho
        exact .of r.hK (e_lam TB hc hT hu s1 s2 (r.hs.symm ▸ h3) h4) fun _ => rfl
      · cases h
    · cases h
  | .tup es, k, sc, f, X, W, e, r, h => by
    unfold mE at h
    split at h
    · obtain ⟨h, h3⟩ := an h
      obtain ⟨h1, h2⟩ := an h
      refine .of r.hK (e_tup ((sEs es r h1).args h2) (Nat.le_trans (of_decide_eq_true h3) (by decide)) fun c env h as h' z => ?_) fun _ => rfl
      rw [evEs_len z, (mEs_star h1).2]
      exact Nat.le_refl _
    · cases h
  | .new l, k, sc, f, X, W, e, r, h => by
    unfold mE at h
    obtain ⟨p, q⟩ := sL l r h
    exact .of r.hK (e_new p) q
  | .bin o a b, k, sc, f, X, W, e, r, h => by
    unfold mE at h
    split at h
    · obtain ⟨h, h3⟩ := an h
      obtain ⟨h1, h2⟩ := an h
      have e1 := of_decide_eq_true h1
      subst e1
      have z : evE (.bin o a b) k = fun env h => (evE a k env h).bind fun x h1 => (evE b k env h1).bind fun y h2 => o.run x y h2 := by
        funext env h
        rw [evE]
      rw [z]
      exact .of r.hK (e_bin (o_bin r.hK o) (bop_noexc o) (sE a r h2).1 (sE b r h3).1) fun _ => rfl
    · cases h
  | .neg a, k, sc, f, X, W, e, r, h => by
    unfold mE at h
    split at h
    · exact .of r.hK (e_neg (sE a r h).1) fun _ => rfl
    · cases h
  | .not a, k, sc, f, X, W, e, r, h => by
    unfold mE at h
    split at h
    · obtain ⟨h1, h2⟩ := an h
      have z : evE (.not a) k = fun env h => (evE a k env h).bind fun x h1 => ofO ((truthD h1 x).map fun b => .bool (!b)) h1 := by
        funext env h
        rw [evE]
      rw [z]
      exact ⟨e_not r.hK (sE a r h1).1, fun _ => t_not ((sE a r h1).2 h2)⟩
    · cases h
  | .bop t es, k, sc, f, X, W, e, r, h => by
    unfold mE at h
    split at h
    · obtain ⟨h, h3⟩ := an h
      obtain ⟨h1, h2⟩ := an h
      have e1 := of_decide_eq_true h1
      subst e1
      have z : evE (.bop t es) k = evB t es k := by
        funext env h
        rw [evE]
      rw [z]
      obtain ⟨p, q⟩ := AllB.bop (t := t) r.hK (sEs es r h2) h3
      exact ⟨p, fun _ => q.pt⟩
    · cases h
  | .cmp o a b, k, sc, f, X, W, e, r, h => by
    unfold mE at h
    split at h
    · obtain ⟨h, h4⟩ := an h
      obtain ⟨h, h3⟩ := an h
      obtain ⟨h1, h2⟩ := an h
      have e1 := of_decide_eq_true h1
      subst e1
      have z : evE (.cmp o a b) k = fun env h => (evE a k env h).bind fun x h1 => (evE b k env h1).bind fun y h2 => ofO ((o.run x y h2).map .bool) h2 := by
        funext env h
        rw [evE]
      rw [z]
      have hm := noMarks (op := o.py) h4
      exact ⟨e_cmp (o_cmp r.hK r.un o) (sE a r h2).1 (sE b r h3).1 hm, fun _ => t_cmp (o_cmp r.hK r.un o) (sE a r h2).1 (sE b r h3).1 hm⟩
    · cases h
  | .chain o p a b c, k, sc, f, X, W, e, r, h => by
    unfold mE at h
    split at h
    · obtain ⟨h, h6⟩ := an h
      obtain ⟨h, h5⟩ := an h
      obtain ⟨h, h4⟩ := an h
      obtain ⟨h, h3⟩ := an h
      obtain ⟨h1, h2⟩ := an h
      have e1 := of_decide_eq_true h1
      have e2 := of_decide_eq_true h2
      subst e1 e2
      have z : evE (.chain o p a b c) k = fun env h => (evE a k env h).bind fun x h1 => (evE b k env h1).bind fun y h2 => (ofO (o.run x y h2) h2).bind fun t h2 =>
          if t then (evE c k env h2).bind fun z h3 => ofO ((p.run y z h3).map .bool) h3 else .ok (.bool false) h2 := by
        funext env h
        rw [evE]
      rw [z]
      have hm := noMarks (op := p.py) h6
      exact ⟨e_chain (o_cmp r.hK r.un o) (o_cmp r.hK r.un p) (sE a r h3).1 (sE b r h4).1 (sE c r h5).1 hm, fun _ => t_chain (o_cmp r.hK r.un o) (o_cmp r.hK r.un p) (sE a r h3).1 (sE b r h4).1 (sE c r h5).1 hm⟩
    · cases h
  | .ife t a b, k, sc, f, X, W, e, r, h => by
    unfold mE at h
    split at h
    · obtain ⟨h, h4⟩ := an h
      obtain ⟨h, h3⟩ := an h
      obtain ⟨h1, h2⟩ := an h
      have z : evE (.ife t a b) k = fun env h => (tst h (evE t k env h)).bind fun t h1 => if t then evE a k env h1 else evE b k env h1 := by
        funext env h
        rw [evE]
      rw [z]
      exact ⟨e_ife ((sE t r h1).2 h2) (sE a r h3).1 (sE b r h4).1, fun w => by simp [tOk] at w⟩
    · cases h
  | .call m es, k, sc, f, X, W, e, r, h => by
    unfold mE at h
    split at h
    · obtain ⟨h, h6⟩ := an h
      obtain ⟨h, h5⟩ := an h
      obtain ⟨h, h4⟩ := an h
      obtain ⟨h, h3⟩ := an h
      obtain ⟨h1, h2⟩ := an h
      obtain ⟨fd, d1, rfl, d3, d4⟩ := r.def_ h3
      obtain ⟨n, hr, hf⟩ := r.fns h1
      exact .of r.hK (e_call r.tk hr r.gd (hf m fd d1) (glB_ok r.hs h2) (r.gm.fn m fd d1).1 d3 ((sEs es r h4).args h5) h5 (d4 _ rfl).symm (of_decide_eq_true h6)) fun _ => rfl
    · cases h
  | .callv i es, k, sc, f, X, W, e, r, h => by
    unfold mE at h
    split at h
    · obtain ⟨h, h6⟩ := an h
      obtain ⟨h, h5⟩ := an h
      obtain ⟨h, h4⟩ := an h
      obtain ⟨h, h3⟩ := an h
      obtain ⟨h1, h2⟩ := an h
      obtain ⟨n, hr, hf⟩ := r.fns h1
      obtain ⟨o1, o2⟩ := ownB_ok h4
      refine .of r.hK (e_callv r.tk hr r.gd (fun m ds h hne => ?_) (fun m hm => r.hK ▸ r.gm.keep m hm) (r.hN ▸ of_decide_eq_true h2) (visB_ok r.hs h3) o1 o2 ((sEs es r h5).args h6) h6) fun _ => rfl
      obtain ⟨fd, d1, d2⟩ := r.len _ _ _ _ hne
      rw [d2]
      exact hf m fd d1
    · cases h
  | .isi a t, k, sc, f, X, W, e, r, h => by
    unfold mE at h
    split at h
    · obtain ⟨h, h4⟩ := an h
      obtain ⟨h, h3⟩ := an h
      obtain ⟨h1, h2⟩ := an h
      exact .of r.hK (e_isi r.hK (r.blt_ h1 (by decide +kernel) (by decide) (by decide)) (r.blt_ h2 (by cases t <;> decide +kernel) (by cases t <;> decide) (by cases t <;> decide)) (sE a r h3).1 h4) fun _ => rfl
    · cases h
  | .f1 g a, k, sc, f, X, W, e, r, h => by
    unfold mE at h
    split at h
    · obtain ⟨h, h3⟩ := an h
      obtain ⟨h1, h2⟩ := an h
      exact .of r.hK (e_f1 r.hK r.un r.gd (r.blt_ h1 g.boot (by cases g <;> decide) (by cases g <;> decide)) (sE a r h2).1 h3) fun _ => rfl
    · cases h
  | .f2 g a b, k, sc, f, X, W, e, r, h => by
    unfold mE at h
    split at h
    · obtain ⟨h, h5⟩ := an h
      obtain ⟨h, h4⟩ := an h
      obtain ⟨h, h3⟩ := an h
      obtain ⟨h1, h2⟩ := an h
      exact .of r.hK (e_f2 (r.calm h1) (r.blt_ h2 g.boot (by cases g <;> decide) (by cases g <;> decide)) (sE a r h3).1 (sE b r h4).1 h5) fun _ => rfl
    · cases h
  | .fl g a, k, sc, f, X, W, e, r, h => by
    unfold mE at h
    split at h
    · obtain ⟨h, h4⟩ := an h
      obtain ⟨h, h3⟩ := an h
      obtain ⟨h1, h2⟩ := an h
      have B := r.blt_ h2 g.boot (by cases g <;> decide) (by cases g <;> decide)
      cases a with
      | e a =>
        unfold mA at h3
        exact .of r.hK (e_fl r.hK (r.calm h1) B (sE a r h3).1 h4 fun _ _ _ => i_flE) fun _ => rfl
      | l l =>
        unfold mA at h3
        exact .of r.hK (e_fl r.hK (r.calm h1) B (sL l r h3).1 h4 fun _ _ _ => i_flL) fun _ => rfl
      | _ => unfold mA at h3; cases h3
    · cases h
  | .idx a b, k, sc, f, X, W, e, r, h => by
    unfold mE at h
    split at h
    · obtain ⟨h, h3⟩ := an h
      obtain ⟨h1, h2⟩ := an h
      exact .of r.hK (e_idx r.hK (sE a r h1).1 (sE b r h2).1 h3) fun _ => rfl
    · cases h
  | .sl a lo hi, k, sc, f, X, W, e, r, h => by
    unfold mE at h
    split at h
    · obtain ⟨h, h3⟩ := an h
      obtain ⟨h1, h2⟩ := an h
      exact .of r.hK (e_sl r.hK (sE a r h1).1 (sO lo r h2) (sO hi r h3)) fun _ => rfl
    · cases h
  | .rev a, k, sc, f, X, W, e, r, h => by
    unfold mE at h
    split at h
    · exact .of r.hK (e_rev (sE a r h).1) fun _ => rfl
    · cases h
  | .meth m a es, k, sc, f, X, W, e, r, h => by
    unfold mE at h
    split at h
    · obtain ⟨h, h7⟩ := an h
      obtain ⟨h, h6⟩ := an h
      obtain ⟨h, h5⟩ := an h
      obtain ⟨h, h4⟩ := an h
      obtain ⟨h, h3⟩ := an h
      obtain ⟨h1, h2⟩ := an h
      have hl : ∀ (x : Expr) (xs : List Expr), decide (xs.length < 20) = true → (x :: xs).length < 30 := fun x xs z => by
        have := of_decide_eq_true z
        simp only [List.length_cons]
        omega
      have pa := (sEs es r h3).args h4
      cases m <;> simp only [decide_eq_true_eq, Bool.false_eq_true] at h1
      · subst h1
        exact .of r.hK (e_append (sE a r h2).1 pa h5 h4 (hl _ _ h6) h7) fun _ => rfl
      · subst h1
        exact .of r.hK (e_extend (sE a r h2).1 pa h5 h4 (hl _ _ h6) h7) fun _ => rfl
    · cases h
theorem sO : ∀ (x : O) {k : Ct} {sc : Scope} {f : Md} {X : Cx} {W : WX} {e : Option Expr}, Rm M rc k N sc f X W → mO M N sc f x e = true → PO X e (tOI rc W (evO x k))
  | .none, k, sc, f, X, W, e, r, h => by
    unfold mO at h
    split at h
    · exact o_none
    · cases h
  | .some a, k, sc, f, X, W, e, r, h => by
    unfold mO at h
    split at h
    · exact o_some (sE a r h).1
    · cases h
theorem sEs : ∀ (x : Es) {k : Ct} {sc : Scope} {f : Md} {X : Cx} {W : WX} {e : List Expr}, Rm M rc k N sc f X W → mEs M N sc f x e = true → AllB X rc W k x e
  | .nil, k, sc, f, X, W, e, r, h => by
    unfold mEs at h
    split at h
    · exact True.intro
    · cases h
  | .cons a as, k, sc, f, X, W, e, r, h => by
    unfold mEs at h
    split at h
    · obtain ⟨h, h3⟩ := an h
      obtain ⟨h1, h2⟩ := an h
      exact ⟨sE a r h1, sEs as r h2⟩
    · cases h
theorem sL : ∀ (x : L) {k : Ct} {sc : Scope} {f : Md} {X : Cx} {W : WX} {e : Expr}, Rm M rc k N sc f X W → mL M N sc f x e = true → PE X e (tL rc W (evL x k)) ∧ ∀ whole, isTrue e X.env whole = (do let v ← whole; standAt e.pos; holding [v] (truthy v))
  | .disp es, k, sc, f, X, W, e, r, h => by
    unfold mL at h
    split at h
    · obtain ⟨h, h3⟩ := an h
      obtain ⟨h1, h2⟩ := an h
      refine ⟨l_disp ((sEs es r h1).args h2) (Nat.le_trans (of_decide_eq_true h3) (by decide)) fun c env h as h' z => ?_, fun _ => rfl⟩
      rw [evEs_len z, (mEs_star h1).2]
      exact Nat.le_refl _
    · cases h
  | .comp d t it cs, k, sc, f, X, W, e, r, h => by
    unfold mL at h
    split at h
    · obtain ⟨h, h7⟩ := an h
      obtain ⟨h, h6⟩ := an h
      obtain ⟨h, h5⟩ := an h
      obtain ⟨h, h4⟩ := an h
      obtain ⟨h, h3⟩ := an h
      obtain ⟨h1, h2⟩ := an h
      have hc := r.calm h1
      refine ⟨l_comp hc (r.hN ▸ r.nd) (sI it r h2) (own := ownOf N t) (by simp [ownOf, Function.comp_def]) (blkOk_by (by rw [r.hN, r.hs]; exact h7)) (fun s H C cl fp => (sG r.blk hc).1 t h4) (fun s H C cl fp => sC cs (f := f) r.blk h5) (fun s H C cl fp => (sE d r.blk h6).1) (notSet h3), fun _ => rfl⟩
    · cases h
  | .comp2 .., k, sc, f, X, W, e, r, h => by unfold mL at h; cases h
  | .srt _, k, sc, f, X, W, e, r, h => by unfold mL at h; cases h
  | .lof _, k, sc, f, X, W, e, r, h => by unfold mL at h; cases h
  | .acts i m, k, sc, f, X, W, e, r, h => by
    unfold mL at h
    split at h
    · rename_i ok ho
      split at h
      · rename_i y p1 z p2 w p3 x p4 v p5 p6 p7 s pos
        obtain ⟨h, h14⟩ := an h
        obtain ⟨h, h13⟩ := an h
        obtain ⟨h, h12⟩ := an h
        obtain ⟨h, h11⟩ := an h
        obtain ⟨h, h10⟩ := an h
        obtain ⟨h, h9⟩ := an h
        obtain ⟨h, h8⟩ := an h
        obtain ⟨h, h7⟩ := an h
        obtain ⟨h, h6⟩ := an h
        obtain ⟨h, h5⟩ := an h
        obtain ⟨h, h4⟩ := an h
        obtain ⟨h, h3⟩ := an h
        obtain ⟨h1, h2⟩ := an h
        have h10 := of_decide_eq_true h10
        have h11 := of_decide_eq_true h11
        subst h10 h11
        obtain ⟨n0, c, P, _, _, TB, hc, hT, hu, ask⟩ := r.lam h1
        obtain ⟨s1, s2, n, hr, s3⟩ := r.sto ok ho
        obtain ⟨q, hq, hd⟩ := List.any_eq_true.mp h14
        obtain ⟨hq2, hd⟩ := an hd
        have hq2 : q.2 = m := by simpa using hq2
        obtain ⟨fd0, pg, sg, a, y', j1, j2, qs, fd, Ng, f1, f2, F, B, S, n0, va, gy, da, dd⟩ := (ask q hq).ok
        obtain ⟨fd1, d1, d2, d3, _⟩ := r.def_ hd
        rw [f1] at d1
        cases d1
        subst hq2
        have xc := r.gm.cls _ _ f2
        have hrel : relabel s X.env = relS s sc := by
          unfold relabel relS PySem.Env.kindOf
          rw [r.hs]
        obtain ⟨o1, o2⟩ := ownB_ok h9
        obtain ⟨i1, i2⟩ := ownB_ok h5
        have lia : (relabel s X.env).names.lookup v = some .local := by
          rw [hrel]
          unfold locB at h7
          simpa using h7
        have via : Vis (relabel s X.env) v := .inl lia
        refine ⟨l_acts (n := n) r.hK (fun a b ha hb => r.hK ▸ r.sub ▸ r.gm.exm a b ha hb) (r.calm h2) (r.hN ▸ r.nd) (r.hN ▸ of_decide_eq_true h3) (visB_ok r.hs h4) i1 i2 (ia := N.idxOf v) (by rw [r.hN]; exact of_decide_eq_true h6) via lia o1 o2 (blkOk_by (by rw [r.hN, r.hs]; exact h12))
          (by rw [hrel]; exact of_decide_eq_true h13) (d2 ▸ (r.gm.fn _ _ f1).1) (d2 ▸ F) B S n0 va gy xc.mg xc.lt hr r.gd s1 (fun l f pm c ct h hp => ?_) d3 da dd xc.db, fun _ => rfl⟩
        rw [s2] at hp
        obtain ⟨body, ls, b1, b2, b3⟩ := hp
        have LS := LamX.lamS_by b2
        exact ⟨noPs, body, ls, b3, LS, rfl, fun A out s H E r1 r2 => s3 l ls body b1 LS A out s H E f c r1 r2⟩
      · cases h
    · cases h
theorem sC : ∀ (x : Es) {k : Ct} {sc : Scope} {f : Md} {X : Cx} {e : List Expr}, Rm M rc k N sc ⟨f.calm, false, false, false, none⟩ X WF → mC M N sc f x e = true → PTs X e (tCs rc WF x k)
  | .nil, k, sc, f, X, e, r, h => by
    unfold mC at h
    split at h
    · exact cs_nil
    · cases h
  | .cons a as, k, sc, f, X, e, r, h => by
    unfold mC at h
    split at h
    · obtain ⟨h1, h2⟩ := an h
      exact cs_one ((sE a r h1).2 h2)
    · cases h
theorem sI : ∀ (x : It) {k : Ct} {sc : Scope} {f : Md} {X : Cx} {W : WX} {tg e : Expr}, Rm M rc k N sc f X W → mI M N sc f x tg e = true → PI X tg e (tI rc W (evI x k))
  | .e a, k, sc, f, X, W, tg, e, r, h => by
    unfold mI at h
    exact i_e r.hK (sE a r h).1
  | .l l, k, sc, f, X, W, tg, e, r, h => by
    unfold mI at h
    exact i_l r.hK (sL l r h).1
  | .range1 a, k, sc, f, X, W, tg, e, r, h => by
    unfold mI at h
    split at h
    · obtain ⟨h, h3⟩ := an h
      obtain ⟨h1, h2⟩ := an h
      cases bltB_eq h1
      exact i_range1 (r.blt_ h1 boot_range (by decide) (by decide)) (sE a r h2).1 h3
    · cases h
  | .range2 a b, k, sc, f, X, W, tg, e, r, h => by
    unfold mI at h
    split at h
    · obtain ⟨h, h4⟩ := an h
      obtain ⟨h, h3⟩ := an h
      obtain ⟨h1, h2⟩ := an h
      cases bltB_eq h1
      exact i_range2 (r.blt_ h1 boot_range (by decide) (by decide)) (sE a r h2).1 (sE b r h3).1 h4
    · cases h
  | .zip a b, k, sc, f, X, W, tg, e, r, h => by
    unfold mI at h
    split at h
    · obtain ⟨h, h4⟩ := an h
      obtain ⟨h, h3⟩ := an h
      obtain ⟨h1, h2⟩ := an h
      cases bltB_eq h1
      exact i_zip r.hK (r.blt_ h1 (by decide +kernel) (by decide) (by decide)) (sE a r h2).1 (sE b r h3).1 h4
    · cases h
  | .enum a, k, sc, f, X, W, tg, e, r, h => by
    unfold mI at h
    split at h
    · obtain ⟨h, h3⟩ := an h
      obtain ⟨h1, h2⟩ := an h
      cases bltB_eq h1
      exact i_enum r.hK (r.blt_ h1 boot_enumerate (by decide) (by decide)) (sE a r h2).1 h3
    · cases h
  | .enumL l, k, sc, f, X, W, tg, e, r, h => by
    unfold mI at h
    split at h
    · obtain ⟨h, h3⟩ := an h
      obtain ⟨h1, h2⟩ := an h
      cases bltB_eq h1
      exact i_enumL r.hK (r.blt_ h1 boot_enumerate (by decide) (by decide)) (sL l r h2).1 h3
    · cases h
  | .enumZ a b, k, sc, f, X, W, tg, e, r, h => by
    unfold mI at h
    split at h
    · obtain ⟨h, h5⟩ := an h
      obtain ⟨h, h4⟩ := an h
      obtain ⟨h, h3⟩ := an h
      obtain ⟨h1, h2⟩ := an h
      cases bltB_eq h1
      cases bltB_eq h2
      exact i_enumZ r.hK (r.blt_ h1 boot_enumerate (by decide) (by decide)) (r.blt_ h2 PyProof.Rows.boot_zip (by decide) (by decide)) (sE a r h3).1 (sE b r h4).1 h5
    · cases h
end
end
end MI
end
section
/-! MU: the statements. -/
namespace MI
open PySem PySem.Spec PyProof.Rows L2
/-! ### stores that are swapped -/
def notComp : Expr → Bool
  | .ListComp .. => false
  | .SetComp .. => false
  | .DictComp .. => false
  | _ => true
/-- does a comprehension go straight into the name? -/
def swB (sc : Scope) (v t : Expr) : Option Bool :=
  match v, t with
  | .ListComp _ _ s p, .Name x q => some (decide (sc.names.lookup x = some .local) && (q.line == p.line) && !(s.names.any fun (n, k) => n == x && (k == .local || k == .cell)))
  | .ListComp .., _ => some false
  | v, _ => if notComp v then some false else none
theorem swapsWith_no {env : PySem.Env} {v : Expr} {t : Option Expr} {l : Nat} (h : notComp v = true) : swapsWith v t l env = pure false := by
  cases v <;> first
    | rfl
    | (simp [notComp] at h; done)
theorem swB_ok {env : PySem.Env} {sc : Scope} {v t : Expr} {b : Bool} {l : Nat} (hs : env.scope = sc) (hk : sc.kind = .function) (h : swB sc v t = some b) : swapsWith v (some t) l env = pure b := by
  unfold swB at h
  split at h
  · rename_i s p x q
    simp only [Option.some.injEq] at h
    have e1 : env.blockKind = .function := by
      unfold PySem.Env.blockKind
      rw [hs, hk]
      rfl
    unfold swapsWith
    simp only [e1, PySem.Env.kindOf, hs]
    subst h
    congr 1
    cases hl : sc.names.lookup x with
    | none => simp
    | some kk => cases kk <;> first
      | (simp; done)
      | (simp; rfl)
  · rename_i hn
    cases h
    cases t <;> first
      | rfl
      | exact (hn _ _ rfl).elim
  · split at h
    · cases h
      exact swapsWith_no (by assumption)
    · cases h
/-- the local names of a pair of targets, on one line -/
def namesB (sc : Scope) (ts : List Expr) : List Str :=
  ts.filterMap fun
    | .Name x q => if sc.names.lookup x == some .local && q.line == (ts.head?.map (·.pos.line)).getD 0 then some x else none
    | _ => none
def pairB (sc : Scope) (ts vs : List Expr) : Option (Option (List Str)) :=
  if !(ts.length == 2 || ts.length == 3) || vs.length != ts.length then some none else
  if !noStar vs then none else
  if (namesB sc ts).length != ts.length || (namesB sc ts).eraseDups.length != (namesB sc ts).length then some none else
  if vs.all (foldedForSure 8) then some none else
  if vs.all (constantsAlone 8) then none else some (some (namesB sc ts))
/-- what the stores of a statement are -/
def stB (sc : Scope) (t v : Expr) : Option (Option (List Str)) :=
  match t, v with
  | .Tuple ts _ _, .Tuple vs _ _ => pairB sc ts vs
  | .List _ _, _ => none
  | _, _ => some none
theorem noStar_any : ∀ {vs : List Expr}, noStar vs = true → (vs.any fun | .Starred .. => true | _ => false) = false
  | [], _ => rfl
  | v :: vs, h => by
    have ih := noStar_any (noStar_tail h)
    cases v <;> first
      | (simp [noStar] at h; done)
      | (rw [List.any_cons, ih]; rfl)
theorem stB_ok {env : PySem.Env} {sc : Scope} {t v : Expr} {o : Option (List Str)} (hs : env.scope = sc) (hk : sc.kind = .function) (h : stB sc t v = some o) : swappedStores [t] v env = pure o := by
  unfold stB at h
  split at h
  · rename_i ts k1 p1 vs k2 p2
    have e1 : env.blockKind = .function := by
      unfold PySem.Env.blockKind
      rw [hs, hk]
      rfl
    unfold pairB at h
    unfold swappedStores
    simp only [e1, PySem.Env.kindOf, hs]
    split at h
    · rename_i c
      cases h
      rw [if_pos (by rw [c]; rfl)]
    · rename_i c
      rw [if_neg (by rw [Bool.eq_false_iff.mpr c]; decide)]
      split at h
      · cases h
      · rename_i c2
        have c2' := noStar_any (vs := vs) (by simpa using c2)
        refine (if_neg fun z => Bool.noConfusion (z.symm.trans c2')).trans ?_
        split at h
        · rename_i c3
          cases h
          exact if_pos c3
        · rename_i c3
          refine (if_neg c3).trans ?_
          split at h
          · rename_i c4
            cases h
            rw [if_pos c4]
          · rename_i c4
            rw [if_neg c4]
            split at h
            · cases h
            · rename_i c5
              cases h
              rw [if_neg c5]
              rfl
  · cases h
  · cases h
    rename_i n1 n2
    cases t <;> first
      | rfl
      | (cases v <;> first
          | rfl
          | (exact (n2 _ _ _ _ _ _ rfl rfl).elim)
          | (exact (n1 _ _ rfl).elim))
/-! ### is a statement the row's? -/
section
variable (M : Pg) (N : List Str)
def mAs (sc : Scope) (f : Md) (t : Tg) (x : E) (tg v : Expr) : Bool :=
  match swB sc v tg, stB sc tg v with
  | some false, some none => f.calm && f.cel && mE M N sc f x v && mG N sc f.cel t tg && noStar [tg]
  | _, _ => false
def mCl (sc : Scope) (f : Md) (t : Tg) (x : E) (tg v : Expr) : Bool :=
  match t, x, tg, v with
  | .v i, .new (.comp d g it cs), .Name y _, .ListComp z [⟨u, w, ifs, 0⟩] s _ => decide (swB sc v tg = some true) && f.calm && f.cel && nmB N i y && decide (sc.names.lookup y = some .local) && mI M N sc f it u w && setB w && mG N (relS s sc) false g u && mC M N (relS s sc) f cs ifs && mE M N (relS s sc) ⟨f.calm, false, false, false, none⟩ d z && blkC N sc s (ownOf N g)
  | _, _, _, _ => false
def mPr (sc : Scope) (f : Md) (t : Tg) (x : E) (tg v : Expr) : Bool :=
  match t, x, tg, v with
  | .t [.v i, .v j], .tup es, .Tuple [.Name y _, .Name z _] _ _, .Tuple vs _ _ => decide (stB sc tg v = some (some [y, z])) && f.calm && f.cel && nmB N i y && nmB N j z && decide (i ≠ j) && decide (sc.names.lookup y = some .local) && decide (sc.names.lookup z = some .local) && mEs M N sc f es vs && noStar vs && decide (vs.length = 2)
  | .t [.v i, .v j, .v l], .tup es, .Tuple [.Name y _, .Name z _, .Name u _] _ _, .Tuple vs _ _ => decide (stB sc tg v = some (some [y, z, u])) && f.calm && f.cel && nmB N i y && nmB N j z && nmB N l u && decide (i ≠ j) && decide (i ≠ l) && decide (j ≠ l) && decide (sc.names.lookup y = some .local) && decide (sc.names.lookup z = some .local) && decide (sc.names.lookup u = some .local) && mEs M N sc f es vs && noStar vs && decide (vs.length = 3)
  | _, _, _, _ => false
mutual
def mS (sc : Scope) (f : Md) : S → Stmt → Bool
  | .assign t x, e => (match e with
    | .Assign [tg] v _ => mAs M N sc f t x tg v || mCl M N sc f t x tg v || mPr M N sc f t x tg v
    | _ => false)
  | .asub o i x, e => (match e with
    | .Assign [.Subscript a b _] v _ => mE M N sc f o a && mE M N sc f i b && mE M N sc f x v && notSlice b
    | _ => false)
  | .aug i o x, e => (match e with
    | .AugAssign (.Name y _) p v _ => decide (p = o.py) && nmB N i y && locB sc f.cel y && mE M N sc f x v
    | _ => false)
  | .augsub a b o x, e => (match e with
    | .AugAssign (.Subscript y z _) p v _ => decide (p = o.py) && mE M N sc f a y && mE M N sc f b z && mE M N sc f x v && notSlice z
    | _ => false)
  | .expr x, e => (match e with
    | .Expr v _ => mE M N sc f x v && notComp v
    | _ => false)
  | .ret x, e => (match e with
    | .Return (some v) _ => mE M N sc f x v
    | _ => false)
  | .retn, e => (match e with
    | .Return none _ => true
    | _ => false)
  | .ite c a b, e => (match e with
    | .If w x y _ => mE M N sc f c w && tOk w && mSs sc f a x && mSs sc f b y
    | _ => false)
  | .for_ t it b, e => (match e with
    | .For tg x y [] _ => f.calm && mI M N sc f it tg x && setB x && mG N sc f.cel t tg && mSs sc f b y
    | _ => false)
  | .while_ c b, e => (match e with
    | .While w x [] _ => mE M N sc f c w && tOk w && mSs sc f b x
    | _ => false)
  | .brk, e => (match e with
    | .Break _ => true
    | _ => false)
  | .cont, e => (match e with
    | .Continue _ => true
    | _ => false)
  | .pass, e => (match e with
    | .Pass _ => true
    | _ => false)
  | .raise m es, e => (match es, e with
    | .nil, .Raise (some (.Call (.Name y _) [] [] _)) none _ => f.calm && glB sc y && decide (M.cls[m]? = some y)
    | _, _ => false)
  | .try_ b hd, e => (match e with
    | .Try x (h :: hs) [] [] _ => f.top && mSs sc f b x && mH sc f hd (h :: hs)
    | _ => false)
def mSs (sc : Scope) (f : Md) : Ss → List Stmt → Bool
  | .nil, e => (match e with
    | [] => true
    | _ => false)
  | .cons s ss, e => (match e with
    | x :: xs => mS sc f s x && mSs sc f ss xs
    | _ => false)
def mH (sc : Scope) (f : Md) : Hd → List ExceptHandler → Bool
  | .nil, e => (match e with
    | [] => true
    | _ => false)
  | .cons m v b r, e => (match v, e with
    | none, .ExceptHandler (some (.Name y _)) none (x :: xs) _ :: hs => glB sc y && decide (M.cls[m]? = some y) && mSs sc ⟨false, false, false, f.cel, none⟩ b (x :: xs) && mH sc f r hs
    | _, _ => false)
end
end
section
variable {M : Pg} {rc : Rc} {N : List Str}
theorem Rm.kind {k : Ct} {sc : Scope} {f : Md} {X : Cx} {W : WX} (r : Rm M rc k N sc f X W) : True := True.intro
/-- the body of a try -/
theorem Rm.tr {k : Ct} {sc : Scope} {f : Md} {X : Cx} {W W' : WX} {pn : List (Addr × Obj)} {xe : Value → Shared → Prop} (r : Rm M rc k N sc f X W) (tk : Takes (X.tr pn xe) W') (po : PassesOwn (model X.prog X.w) X.A X.env xe) : Rm M rc k N sc f (X.tr pn xe) W' where
  hK := r.hK
  hN := r.hN
  nd := r.nd
  hs := r.hs
  calm := r.calm
  un := r.un
  gd := r.gd
  fn := r.fn
  knd := r.knd
  tk := tk
  po := po
  top := r.top
  gm := r.gm
  con := r.con
  sub := r.sub
  fns := fun z => by
    obtain ⟨n, h1, h2⟩ := r.fns z
    exact ⟨n, h1, fun m fd h => ⟨(h2 m fd h).keep, (h2 m fd h).ok⟩⟩
  len := r.len
  lam := fun z => by
    obtain ⟨n, c, P, h1, h2, h3, h4, h5, h6, h7⟩ := r.lam z
    exact ⟨n, c, P, h1, fun m fd h => ⟨(h2 m fd h).keep, (h2 m fd h).ok⟩, h3, h4, h5, h6, fun q hq => ⟨(h7 q hq).ok⟩⟩
  sto := r.sto
/-- a clause of a try -/
theorem Rm.suite {k : Ct} {sc : Scope} {f : Md} {X : Cx} {W : WX} {a : Addr} {pn : List (Addr × Obj)} (r : Rm M rc k N sc f X W) : Rm M rc k N sc ⟨false, false, false, f.cel, none⟩ (X.suite a pn) WF where
  hK := r.hK
  hN := r.hN
  nd := r.nd
  hs := r.hs
  calm := fun z => by cases z
  un := r.un
  gd := r.gd
  fn := r.fn
  knd := r.knd
  tk := takesF
  po := PassesOwn.never
  top := fun z => by cases z
  gm := r.gm
  con := r.con
  sub := r.sub
  fns := fun z => by cases z
  len := r.len
  lam := fun z => by cases z
  sto := fun _ z => by cases z
theorem toAll {k : Ct} {sc : Scope} {f : Md} {X : Cx} {W : WX} {t : E} {w : Expr} (r : Rm M rc k N sc f X W) (h1 : mE M N sc f t w = true) (h2 : tOk w = true) : PT X w (tT rc W fun env h => tst h (evE t k env h)) := t_gc ((sE t r h1).2 h2)
theorem assign1 {tg : Expr} {env : PySem.Env} (h : noStar [tg] = true) : (assignEach [tg] env).map (·.2) = [assign tg env] := by
  cases tg <;> first
    | rfl
    | (simp [noStar] at h; done)
theorem sAs {k : Ct} {sc : Scope} {f : Md} {X : Cx} {W : WX} {t : Tg} {x : E} {tg v : Expr} {pos : Pos} (r : Rm M rc k N sc f X W) (h : mAs M N sc f t x tg v = true) : PS X (.Assign [tg] v pos) (tS rc W (evS (.assign t x) k)) := by
  unfold mAs at h
  split at h
  · rename_i h1 h2
    obtain ⟨h, h6⟩ := an h
    obtain ⟨h, h5⟩ := an h
    obtain ⟨h, h4⟩ := an h
    obtain ⟨h3, h7⟩ := an h
    have kd := r.knd h7
    exact s_assign (sE x r h4).1 ((sG r (r.calm h3)).1 t h5) (swB_ok r.hs kd h1) (stB_ok r.hs kd h2) (assign1 h6)
  · cases h
theorem own_slots (N : List Str) (t : Tg) : (ownOf N t).map (·.2) = t.slots := by simp [ownOf, Function.comp_def]
theorem sCl {k : Ct} {sc : Scope} {f : Md} {X : Cx} {W : WX} {t : Tg} {x : E} {tg v : Expr} {pos : Pos} (r : Rm M rc k N sc f X W) (h : mCl M N sc f t x tg v = true) : PS X (.Assign [tg] v pos) (tS rc W (evS (.assign t x) k)) := by
  unfold mCl at h
  split at h
  · obtain ⟨h, c11⟩ := an h
    obtain ⟨h, c10⟩ := an h
    obtain ⟨h, c9⟩ := an h
    obtain ⟨h, c8⟩ := an h
    obtain ⟨h, c7⟩ := an h
    obtain ⟨h, c6⟩ := an h
    obtain ⟨h, c5⟩ := an h
    obtain ⟨h, c4⟩ := an h
    obtain ⟨h, c3⟩ := an h
    obtain ⟨c1, c2⟩ := an h
    have hc := r.calm c2
    exact s_setLc hc (r.hN ▸ r.nd) (r.hN ▸ of_decide_eq_true c4) (r.hs ▸ of_decide_eq_true c5) (swB_ok r.hs (r.knd c3) (of_decide_eq_true c1)) (sI _ r c6) (own_slots N _) (blkOk_by (by rw [r.hN, r.hs]; exact c11))
      (fun s H C cl fp => (sG r.blk hc).1 _ c8) (fun s H C cl fp => sC _ (f := f) r.blk c9) (fun s H C cl fp => (sE _ r.blk c10).1) (notSet c7)
  · cases h
theorem sPr {k : Ct} {sc : Scope} {f : Md} {X : Cx} {W : WX} {t : Tg} {x : E} {tg v : Expr} {pos : Pos} (r : Rm M rc k N sc f X W) (h : mPr M N sc f t x tg v = true) : PS X (.Assign [tg] v pos) (tS rc W (evS (.assign t x) k)) := by
  unfold mPr at h
  split at h
  · rename_i vs _ _
    obtain ⟨h, c10⟩ := an h
    obtain ⟨h, c9⟩ := an h
    obtain ⟨h, c8⟩ := an h
    obtain ⟨h, c7⟩ := an h
    obtain ⟨h, c6⟩ := an h
    obtain ⟨h, c5⟩ := an h
    obtain ⟨h, c4⟩ := an h
    obtain ⟨h, c3⟩ := an h
    obtain ⟨h, c2⟩ := an h
    obtain ⟨c0, c1⟩ := an h
    have pa := (sEs _ r c8).args c9
    have st := stB_ok r.hs (r.knd c2) (of_decide_eq_true c0)
    match vs, of_decide_eq_true c10, pa, st with
    | [a, b], _, pa, st => exact s_par2 (r.calm c1) (r.hN ▸ r.nd) (r.hN ▸ of_decide_eq_true c3) (r.hN ▸ of_decide_eq_true c4) (of_decide_eq_true c5) (r.hs ▸ of_decide_eq_true c6) (r.hs ▸ of_decide_eq_true c7) pa st
  · rename_i vs _ _
    obtain ⟨h, c13⟩ := an h
    obtain ⟨h, c12⟩ := an h
    obtain ⟨h, c11⟩ := an h
    obtain ⟨h, c10⟩ := an h
    obtain ⟨h, c9⟩ := an h
    obtain ⟨h, c8⟩ := an h
    obtain ⟨h, c7⟩ := an h
    obtain ⟨h, c6⟩ := an h
    obtain ⟨h, c5⟩ := an h
    obtain ⟨h, c4⟩ := an h
    obtain ⟨h, c3⟩ := an h
    obtain ⟨h, c2⟩ := an h
    obtain ⟨h, c1⟩ := an h
    obtain ⟨c0, c00⟩ := an h
    have pa := (sEs _ r c11).args c12
    have st := stB_ok r.hs (r.knd c1) (of_decide_eq_true c0)
    match vs, of_decide_eq_true c13, pa, st with
    | [a, b, c], _, pa, st => exact s_par3 (r.calm c00) (r.hN ▸ r.nd) (r.hN ▸ of_decide_eq_true c2) (r.hN ▸ of_decide_eq_true c3) (r.hN ▸ of_decide_eq_true c4) (of_decide_eq_true c5) (of_decide_eq_true c6) (of_decide_eq_true c7) (r.hs ▸ of_decide_eq_true c8) (r.hs ▸ of_decide_eq_true c9) (r.hs ▸ of_decide_eq_true c10) pa st
  · cases h
theorem hdOk_of {sc : Scope} {f : Md} {k : Ct} {X : Cx} {W : WX} (r : Rm M rc k N sc f X W) : ∀ {hd : Hd} {hs : List ExceptHandler}, mH M N sc f hd hs = true → hdOk rc hd
  | .nil, _, _ => True.intro
  | .cons m v b hd, hs, h => by
    unfold mH at h
    split at h
    · obtain ⟨h, c4⟩ := an h
      obtain ⟨h, c3⟩ := an h
      obtain ⟨c1, c2⟩ := an h
      exact ⟨(r.gm.cls _ _ (of_decide_eq_true c2)).lt, rfl, hdOk_of r c4⟩
    · cases h
mutual
theorem sS : ∀ (x : S) {k : Ct} {sc : Scope} {f : Md} {X : Cx} {W : WX} {e : Stmt}, Rm M rc k N sc f X W → mS M N sc f x e = true → PS X e (tS rc W (evS x k))
  | .assign t x, k, sc, f, X, W, e, r, h => by
    unfold mS at h
    split at h
    · rcases Bool.or_eq_true_iff.mp h with h | h
      · rcases Bool.or_eq_true_iff.mp h with h | h
        · exact sAs r h
        · exact sCl r h
      · exact sPr r h
    · cases h
  | .asub o i x, k, sc, f, X, W, e, r, h => by
    unfold mS at h
    split at h
    · rename_i v _
      obtain ⟨h, h4⟩ := an h
      obtain ⟨h, h3⟩ := an h
      obtain ⟨h1, h2⟩ := an h
      exact s_asub (sE o r h1).1 (sE i r h2).1 (sE x r h3).1 (by cases v <;> rfl) (by cases v <;> rfl) h4
    · cases h
  | .aug i o x, k, sc, f, X, W, e, r, h => by
    unfold mS at h
    split at h
    · obtain ⟨h, h4⟩ := an h
      obtain ⟨h, h3⟩ := an h
      obtain ⟨h1, h2⟩ := an h
      have e1 := of_decide_eq_true h1
      subst e1
      obtain ⟨l1, l2⟩ := locB_ok r.hs r.fn h3
      exact s_aug (r.hN ▸ r.nd) (r.hN ▸ of_decide_eq_true h2) l1 l2 (sE x r h4).1
    · cases h
  | .augsub a b o x, k, sc, f, X, W, e, r, h => by
    unfold mS at h
    split at h
    · obtain ⟨h, h5⟩ := an h
      obtain ⟨h, h4⟩ := an h
      obtain ⟨h, h3⟩ := an h
      obtain ⟨h1, h2⟩ := an h
      have e1 := of_decide_eq_true h1
      subst e1
      exact s_augsub (sE a r h2).1 (sE b r h3).1 (sE x r h4).1 h5
    · cases h
  | .expr x, k, sc, f, X, W, e, r, h => by
    unfold mS at h
    split at h
    · obtain ⟨h1, h2⟩ := an h
      exact s_expr (sE x r h1).1 (swapsWith_no h2)
    · cases h
  | .ret x, k, sc, f, X, W, e, r, h => by
    unfold mS at h
    split at h
    · exact s_ret (sE x r h).1
    · cases h
  | .retn, k, sc, f, X, W, e, r, h => by
    unfold mS at h
    split at h
    · exact s_retn
    · cases h
  | .ite c a b, k, sc, f, X, W, e, r, h => by
    unfold mS at h
    split at h
    · obtain ⟨h, h4⟩ := an h
      obtain ⟨h, h3⟩ := an h
      obtain ⟨h1, h2⟩ := an h
      exact s_ite (toAll r h1 h2) (sSs a r h3) (sSs b r h4)
    · cases h
  | .for_ t it b, k, sc, f, X, W, e, r, h => by
    unfold mS at h
    split at h
    · obtain ⟨h, h5⟩ := an h
      obtain ⟨h, h4⟩ := an h
      obtain ⟨h, h3⟩ := an h
      obtain ⟨h1, h2⟩ := an h
      exact s_for r.po (r.calm h1) (sI it r h2) ((sG r (r.calm h1)).1 t h4) (sSs b r h5) (notSet h3)
    · cases h
  | .while_ c b, k, sc, f, X, W, e, r, h => by
    unfold mS at h
    split at h
    · obtain ⟨h, h3⟩ := an h
      obtain ⟨h1, h2⟩ := an h
      exact s_while r.po (toAll r h1 h2) (sSs b r h3)
    · cases h
  | .brk, k, sc, f, X, W, e, r, h => by
    unfold mS at h
    split at h
    · exact s_brk
    · cases h
  | .cont, k, sc, f, X, W, e, r, h => by
    unfold mS at h
    split at h
    · exact s_cont
    · cases h
  | .pass, k, sc, f, X, W, e, r, h => by
    unfold mS at h
    split at h
    · exact s_pass
    · cases h
  | .raise m es, k, sc, f, X, W, e, r, h => by
    unfold mS at h
    split at h
    · obtain ⟨h, h3⟩ := an h
      obtain ⟨h1, h2⟩ := an h
      exact s_raise0 (r.calm h1) r.tk (r.hK ▸ r.gm.cls m _ (of_decide_eq_true h3)) (glB_ok r.hs h2)
    · cases h
  | .try_ b hd, k, sc, f, X, W, e, r, h => by
    unfold mS at h
    split at h
    · obtain ⟨h, h3⟩ := an h
      obtain ⟨h1, h2⟩ := an h
      obtain ⟨t1, t2, _⟩ := r.top h1
      exact s_try (fun a b ha hb => r.hK ▸ r.sub ▸ r.gm.exm a b ha hb) (hdOk_of r h3) t1 t2 r.tk (fun W' pn xe tk po => sSs b (r.tr tk po) h2) (sH hd r h3)
    · cases h
theorem sSs : ∀ (x : Ss) {k : Ct} {sc : Scope} {f : Md} {X : Cx} {W : WX} {e : List Stmt}, Rm M rc k N sc f X W → mSs M N sc f x e = true → PSs X e (tS rc W (evSs x k))
  | .nil, k, sc, f, X, W, e, r, h => by
    unfold mSs at h
    split at h
    · exact ss_nil
    · cases h
  | .cons s ss, k, sc, f, X, W, e, r, h => by
    unfold mSs at h
    split at h
    · obtain ⟨h1, h2⟩ := an h
      exact ss_cons (sS s r h1) (sSs ss r h2)
    · cases h
theorem sH : ∀ (x : Hd) {k : Ct} {sc : Scope} {f : Md} {X : Cx} {W : WX} {e : List ExceptHandler}, Rm M rc k N sc f X W → mH M N sc f x e = true → HdsOk X e (hdl rc k x)
  | .nil, k, sc, f, X, W, e, r, h => by
    unfold mH at h
    split at h
    · exact hds_nil
    · cases h
  | .cons m v b hd, k, sc, f, X, W, e, r, h => by
    unfold mH at h
    split at h
    · obtain ⟨h, c4⟩ := an h
      obtain ⟨h, c3⟩ := an h
      obtain ⟨c1, c2⟩ := an h
      have xc := r.gm.cls _ _ (of_decide_eq_true c2)
      exact hds_cons ⟨glB_ok r.hs c1, xc.db, .inl xc.mg⟩ (fun a oe pn => sSs b r.suite c3) (sH hd r c4)
    · cases h
end
end
end MI
end
section
/-! MV: the defs. -/
namespace MI
open PySem PySem.Spec PyProof.Rows L2
theorem callF_len {M : Pg} : ∀ {n o m : Nat} {ds : List D} {h : Hs}, callF M n o m ds h ≠ .stuck → ∃ fd, M.fns[m]? = some fd ∧ ds.length = fd.np
  | 0, _, _, _, _, z => absurd rfl z
  | n + 1, 0, m, ds, h, z => by
    unfold callF at z
    split at z
    · exact absurd rfl z
    · unfold runF at z
      split at z
      · rename_i fd hf
        split at z
        · exact ⟨fd, hf, by assumption⟩
        · exact absurd rfl z
      · exact absurd rfl z
  | n + 1, o + 1, m, ds, h, z => by
    unfold callF at z
    exact callF_len z
theorem offS {c : Ct} {env : Env} {h : Hs} : endS (evSs (.cons .brk .nil) c env h) = .stuck := by
  rw [evSs, evS]
  rfl
def offB : Ss → Bool
  | .cons .brk .nil => true
  | _ => false
/-- from a call's end to its body's -/
theorem endPost {rc : Rc} {as : List Addr} {H : Hp} {h : Hs} {Q : VK} {E : XK} {r : RS} (S : SRel rc as h H) (p : Post rc (fun cls dd _ H' => E cls dd H') [] as H (fun d as' _ H' => ∀ v, RD rc as' H' d v → Q v H') (gcX h (endS r))) :
    PostS rc (fun cls dd _ H' => E cls dd H') { nx := fun _ H' => Q .non H', rt := Q } as H r := by
  have p := Post.gcX S p
  cases r with
  | next e h1 =>
    intro as' H' σ' s1 S1 _
    obtain ⟨as2, h2, _, _, q, rr⟩ := p as' H' s1 S1
    exact q .non (by simp only [RD])
  | ret d h1 =>
    intro as' H' v s1 S1 r
    obtain ⟨as2, h2, _, _, q, rr⟩ := p as' H' s1 S1
    exact q v (rr v r)
  | exc x e h1 => exact fun as' H' σ' cls dd s1 S1 _ xr => p as' H' cls dd s1 S1 xr
  | brk e h1 => exact p.elim
  | cont e h1 => exact p.elim
  | stuck => exact p.elim
theorem start_rel {rc : Rc} {as : List Addr} {H : Hp} {N : List Str} {ds : List D} {vs : List V} {np : Nat} (r : RDs rc as H ds vs) (hl : ds.length = np) : ERel rc as H (ds.map some ++ List.replicate (N.length - np) none) (L2.start N vs) := by
  have lv := r.length
  refine ⟨by unfold L2.start; simp only [List.length_append, List.length_map, List.length_replicate]; omega, fun i d e => ?_⟩
  by_cases hi : i < ds.length
  · rw [List.getElem?_append_left (by simpa using hi), List.getElem?_map] at e
    obtain ⟨d', e1, e2⟩ := Option.map_eq_some_iff.mp e
    cases e2
    obtain ⟨v, ev, rv⟩ := r.get e1
    refine ⟨v, ?_, rv⟩
    unfold L2.start
    rw [List.getElem?_append_left (by simp only [List.length_map]; omega), List.getElem?_map, ev]
    rfl
  · rw [List.getElem?_append_right (by simpa using hi), List.getElem?_replicate] at e
    split at e <;> cases e
/-- what the lambdas of a def lean on -/
structure LamOk (M : Pg) (rc : Rc) (K : PySem.W.Frag) (mg : Str → Option Value) (base : Heap) (x : Str) (f : FuncData) : Prop where
  ok : ∃ c P, f.code = .ref c ∧ LamX.TabB base mg c P ∧ (P, x ++ ".<locals>." ++ "<lambda>") ∈ rc.T ∧ ∀ p ∈ rc.T, p.1 = P → p.2 = x ++ ".<locals>." ++ "<lambda>"
/-- a def is the row's -/
structure DefOk (M : Pg) (rc : Rc) (K : PySem.W.Frag) (mg : Str → Option Value) (base : Heap) (m : Nat) (fd : Fd) : Prop where
  ok : ∃ (pa : Arguments) (body : List Stmt) (sc : Scope) (f : FuncData), FunD K fd.name fd.name pa body sc [] [] (rc.fa m) f ∧ Binds K f (fd.names.take fd.np) [] ∧ FnScope fd.names (fd.names.take fd.np) sc ∧ fd.np ≤ fd.names.length ∧
    (offB fd.body = true ∨ mSs M fd.names sc ⟨true, true, fd.lam, true, none⟩ fd.body body = true ∧ (fd.lam = true → LamOk M rc K mg base fd.name f))
section
variable {M : Pg} {rc : Rc} {P : Program} {w : World} {K : PySem.W.Frag} {mg : Str → Option Value} {base : Heap}
/-- the claim of all defs at so much room -/
def Claim (M : Pg) (rc : Rc) (P : Program) (w : World) (K : PySem.W.Frag) (mg : Str → Option Value) (base : Heap) (n : Nat) : Prop :=
  ∀ (m : Nat) (fd : Fd), M.fns[m]? = some fd → PySem.W.keepIn K (.ref (rc.fa m)) = true ∧ ∃ (f : FuncData) (ps : List Str), FnG P w K mg base n (rc.fa m) f ps (spC rc fd.np (callF M n 0 m)) ∧ Binds K f ps [] ∧ ps.length = fd.np
theorem Claim.fnk {X : Cx} {n : Nat} (c : Claim M rc X.prog X.w X.K X.mg X.base n) {m : Nat} {fd : Fd} (h : M.fns[m]? = some fd) : FnK X rc n m fd.np (callF M n 0 m) := by
  obtain ⟨h1, f, ps, h2, h3, h4⟩ := c m fd h
  exact ⟨h1, f, ps, h2, h3, h4⟩
/-- a def's body -/
theorem body_rm {n : Nat} {m : Nat} {fd : Fd} {sc : Scope} {f : FuncData} {lam : Bool} {cd : Value} {A : Around} {out : List PySem.Env} {s : Shared} {H : Hp} {E : XK} (hK : rc.K = K) (gm : Gm M rc mg) (ask : ∀ X : Cx, X.K = K → ∀ q ∈ M.ask, AskOk M rc X q.1 q.2) (S : FnScope fd.names (fd.names.take fd.np) sc)
    (c0 : Claim M rc P w K mg base n) (c2 : ∀ j, n = j + 2 → Claim M rc P w K mg base j) (hn : 2 ≤ n) (hl : lam = true → LamOk M rc K mg base fd.name f) (hc : f.code = cd) (hr : Room n (A.deeper (envOfC fd.name sc s.heap.objs.size (rc.fa m) cd))) (hg : A.guards = some []) :
    Rm M rc (M.ct (callF M n)) fd.names sc ⟨true, true, lam, true, none⟩ (bodyCx P w K mg base fd.names fd.name sc (rc.fa m) cd A out s H E) (fun cls dd _ H' => E cls dd H') where
  hK := hK
  hN := rfl
  nd := S.nd
  hs := rfl
  calm := fun _ => rfl
  un := by
    have := hr.un
    show (A.deeper _).units + 66 < _
    omega
  gd := hg
  fn := fun _ _ => rfl
  knd := fun _ => S.kind
  tk := takes_of rfl rfl rfl rfl
  po := passes_of (X := bodyCx P w K mg base fd.names fd.name sc (rc.fa m) cd A out s H E) (K := fun e s'' => L2.CX P w out H s E e s'') rfl
  top := fun _ => ⟨rfl, rfl, S.kind⟩
  gm := gm
  con := fun j p h => by
    show (M.con.map (·.2))[j]? = _
    rw [List.getElem?_map, h]
    rfl
  sub := rfl
  fns := fun _ => ⟨n, hr, fun m fd h => c0.fnk h⟩
  len := fun o m ds h z => callF_len z
  lam := fun z => by
    obtain ⟨c, Pt, h1, h2, h3, h4⟩ := (hl z).ok
    obtain ⟨j, rfl⟩ : ∃ j, n = j + 2 := ⟨n - 2, by omega⟩
    refine ⟨j, c, Pt, hr, fun m fd h => ?_, h2, hc.symm.trans h1, h3, h4, ask _ rfl⟩
    have e : (M.ct (callF M (j + 2))).call ((M.ct (callF M (j + 2))).off + 2) m = callF M j 0 m := by
      funext ds h
      show callF M (j + 2) 2 m ds h = _
      rw [callF, callF]
    rw [e]
    exact (c2 j rfl).fnk h
  sto := fun _ z => by cases z
/-- how a lambda that the law keeps is looked at -/
def okL (M : Pg) (N : List Str) (l : Nat) (s : Scope) (b : Expr) : Bool := match M.lams[l]? with
  | some e => mE M N s ⟨true, false, false, false, none⟩ e b
  | none => false
theorem Rm.law {call : Nat → Nat → List D → Hs → R D} {N : List Str} {sc : Scope} {lam : Bool} {X : Cx} {W : WX} {j : Nat} (r : Rm M rc (M.ct call) N sc ⟨true, true, lam, true, none⟩ X W) (h1 : rc.cq = lamN X) (h2 : rc.clo = cloP X (okL M N))
    (hr : Room (j + 2) X.A) (hf : ∀ m fd, M.fns[m]? = some fd → FnK X rc j m fd.np ((M.ct call).call ((M.ct call).off + 2) m)) : Rm M rc (M.ct call) N sc ⟨true, true, lam, true, some (okL M N)⟩ X W where
  hK := r.hK
  hN := r.hN
  nd := r.nd
  hs := r.hs
  calm := r.calm
  un := r.un
  gd := r.gd
  fn := r.fn
  knd := r.knd
  tk := r.tk
  po := r.po
  top := r.top
  gm := r.gm
  con := r.con
  sub := r.sub
  fns := r.fns
  len := r.len
  lam := r.lam
  sto := fun ok z => by
    cases z
    refine ⟨h1, h2, j, hr, fun l ls body hok LS A out s H E f c hr' hg => ?_⟩
    unfold okL at hok
    split at hok
    · rename_i e he
      have p := (sE e (r.lam_ (out := out) (H := H) (E := E) hr' hg hf (k' := M.ct0 call 2) rfl rfl rfl rfl) hok).1
      have el : (M.ct call).lamb l = evE e (M.ct0 call 2) := by
        funext env h
        show (match M.lams[l]? with
          | some e => evE e (M.ct0 call 2) env h
          | none => .stuck) = _
        rw [he]
      rw [el]
      exact p
    · cases hok
theorem claim_all (hK : rc.K = K) (gm : Gm M rc mg) (ask : ∀ X : Cx, X.K = K → ∀ q ∈ M.ask, AskOk M rc X q.1 q.2) (D : ∀ m fd, M.fns[m]? = some fd → DefOk M rc K mg base m fd) : ∀ n : Nat, Claim M rc P w K mg base n := by
  intro n
  induction n using Nat.strongRecOn with
  | _ n ih =>
    intro m fd hm
    obtain ⟨pa, body, sc, f, F, B, S, np, alt⟩ := (D m fd hm).ok
    have lps : (fd.names.take fd.np).length = fd.np := by rw [List.length_take]; omega
    have len : ∀ vs H Q E, spC rc fd.np (callF M n 0 m) vs H Q E → vs.length = (fd.names.take fd.np).length := by
      rintro vs H Q E ⟨as, h, ds, S1, rs, hl, _⟩
      rw [lps, ← rs.length, hl]
    refine ⟨hK ▸ gm.keep m (gm.fn m fd hm).2, f, fd.names.take fd.np, ?_, B, lps⟩
    have vac : (∀ ds h, callF M n 0 m ds h = .stuck) → FnG P w K mg base n (rc.fa m) f (fd.names.take fd.np) (spC rc fd.np (callF M n 0 m)) := fun z =>
      ⟨len, fun A out s H args us vs Q E _ _ _ _ _ hsp => by
        obtain ⟨as, h, ds, _, _, _, p⟩ := hsp
        rw [z] at p
        exact p.elim⟩
    cases n with
    | zero => exact vac fun ds h => by rw [callF]
    | succ n =>
      by_cases hn : n < 2
      · exact vac fun ds h => by rw [callF, if_pos hn]
      · rcases alt with off | ⟨hb, hl⟩
        · refine vac fun ds h => ?_
          rw [callF, if_neg hn, runF, hm]
          dsimp only
          split
          · have e : fd.body = .cons .brk .nil := by
              revert off
              unfold offB
              split
              · intro _; assumption
              · intro z; cases z
            rw [e, offS]
            rfl
          · rfl
        · refine fnG_of F S len fun cd A out s H vs Q E hcd hr hg hsp => ?_
          obtain ⟨as, h, ds, S1, rs, hld, p⟩ := hsp
          rw [callF, if_neg hn, runF, hm] at p
          dsimp only at p
          rw [if_pos hld] at p
          have rm := body_rm (P := P) (w := w) (m := m) (out := out) (s := s) (H := H) (E := E) hK gm ask S (ih n (Nat.lt_succ_self n)) (fun j e => ih j (by omega)) (by omega) hl hcd hr hg
          exact ⟨_, sSs fd.body rm hb, as, _, h, start_rel rs hld, S1, endPost S1 p⟩
/-- the law's own run -/
def runL (M : Pg) (n : Nat) (fd : Fd) (lb : Ss) (as : List D) (h : Hs) : R D := gcX h (endS (evSs lb (M.ct (callF M n)) (as.map some ++ List.replicate (fd.names.length - fd.np) none) h))
/-- the law's own def -/
theorem law_fn {rcs : (Nat → Addr → Value → Addr → Value → Heap → Prop) → Str → Rc} (hcl : ∀ a b, (rcs a b).clo = a ∧ (rcs a b).cq = b) (hK : ∀ a b, (rcs a b).K = K) (gm : ∀ a b, Gm M (rcs a b) mg) (ask : ∀ a b, ∀ X : Cx, X.K = K → ∀ q ∈ M.ask, AskOk M (rcs a b) X q.1 q.2)
    (D : ∀ a b, ∀ m fd, M.fns[m]? = some fd → DefOk M (rcs a b) K mg base m fd) {j : Nat} {m0 : Nat} {fd : Fd} {lb : Ss} {fa : Addr} (hfa : ∀ a b, (rcs a b).fa m0 = fa) {pa : Arguments} {body : List Stmt} {sc : Scope} {f : FuncData} (F : FunD K fd.name fd.name pa body sc [] [] fa f) (B : Binds K f (fd.names.take fd.np) []) (S : FnScope fd.names (fd.names.take fd.np) sc) (np : fd.np ≤ fd.names.length)
    (hb : mSs M fd.names sc ⟨true, true, fd.lam, true, some (okL M fd.names)⟩ lb body = true) (hl : ∀ a b, fd.lam = true → LamOk M (rcs a b) K mg base fd.name f) :
    FnG P w K mg base (j + 3) fa f (fd.names.take fd.np) (fun vs H Q E => ∀ a b, spC (rcs a b) fd.np (runL M (j + 2) fd lb) vs H Q E) := by
  have lps : (fd.names.take fd.np).length = fd.np := by rw [List.length_take]; omega
  have len : ∀ vs H Q E, (∀ a b, spC (rcs a b) fd.np (runL M (j + 2) fd lb) vs H Q E) → vs.length = (fd.names.take fd.np).length := by
    intro vs H Q E z
    obtain ⟨as, h, ds, S1, rs, hl, _⟩ := z (fun _ _ _ _ _ _ => False) ""
    rw [lps, ← rs.length, hl]
  have cl : ∀ a b n, Claim M (rcs a b) P w K mg base n := fun a b => claim_all (hK a b) (gm a b) (ask a b) (D a b)
  refine fnG_of F S len fun cd A out s H vs Q E hcd hr hg hsp => ?_
  let X : Cx := bodyCx P w K mg base fd.names fd.name sc fa cd A out s H E
  have hsp := hsp (cloP X (okL M fd.names)) (lamN X)
  generalize hrc : rcs (cloP X (okL M fd.names)) (lamN X) = rc at hsp
  have q := hcl (cloP X (okL M fd.names)) (lamN X)
  have cl := cl (cloP X (okL M fd.names)) (lamN X)
  have hK := hK (cloP X (okL M fd.names)) (lamN X)
  have gm := gm (cloP X (okL M fd.names)) (lamN X)
  have ask := ask (cloP X (okL M fd.names)) (lamN X)
  have hl := hl (cloP X (okL M fd.names)) (lamN X)
  have hfa := hfa (cloP X (okL M fd.names)) (lamN X)
  rw [hrc] at q cl hK gm ask hl hfa
  obtain ⟨as, h, ds, S1, rs, hld, p⟩ := hsp
  subst hfa
  have rm := body_rm (P := P) (w := w) (m := m0) (out := out) (s := s) (H := H) (E := E) hK gm ask S (cl (j + 2)) (fun j e => cl j) (by omega) hl hcd hr hg
  have rm := rm.law q.2 q.1 hr fun m fd h => by
    have e : (M.ct (callF M (j + 2))).call ((M.ct (callF M (j + 2))).off + 2) m = callF M j 0 m := by
      funext ds h
      show callF M (j + 2) 2 m ds h = _
      rw [callF, callF]
    rw [e]
    exact (cl j).fnk h
  exact ⟨_, sSs lb rm hb, as, _, h, start_rel rs hld, S1, endPost S1 p⟩
end
end MI
end
section
/-! MW: the law's own call. -/
namespace MI
open PySem PySem.Spec PyProof.Rows L2
/-- what is tracked at the law's call: the script, the tables -/
def H0 (a : Addr) (o : Obj) (xs : List V) (ts : List Addr) : Hp := fun b => if b = a then some (.frz o (.lst xs)) else if b ∈ ts then some (.tbl #[]) else none
theorem law_end {P : Program} {w : World} {K : PySem.W.Frag} {mg mb : Str → Option Value} {k : Nat} {fa a : Addr} {cs : List (Addr × Addr)} {sp : Sp} {s₁ : Shared} {vs : List Value} {ns : List Int}
    (KX : K.In s₁.heap) (kl : ∀ b o, K.lookup b = some o → o.cls ≠ .type "list") (gl : s₁.heap.Ns mainGlobals mg) (bl : s₁.heap.Ns builtinsNs mb) (bb : ∀ x : Str, x ≠ "__name__" → mb x = bootBuiltins x) (lm : s₁.heap.NoLimit) (gn : s₁.gens = #[])
    (tb : ∀ p ∈ cs, s₁.heap.get? p.2 = some { cls := .none, data := .fields #[] }) (tk : ∀ p ∈ cs, K.lookup p.2 = none) (tc : ∀ p ∈ cs, PySem.W.CodeHd s₁.heap p.1 p.2)
    (hm : ∃ (bm : Addr) (ob : Obj), mg "__builtins__" = some (.ref bm) ∧ bm ≠ builtinsNs ∧ s₁.heap.get? bm = some ob ∧ ob.cls = .type "module" ∧ ob.dict = some builtinsNs ∧ ob.data = .plain)
    (ha : s₁.heap.get? a = some { cls := .type "list", data := .seq vs.toArray }) (hi : IntsAre vs ns) (hl : ns.length ≤ sizeLine) (hr : Room k callerA)
    (F : ∀ base : Heap, K.In base → base.Ns mainGlobals mg → (∀ p ∈ cs, LamX.TabB base mg p.1 p.2) → ∃ (fd : FuncData) (x : Str), FnG P w K mg base k fa fd [x] sp ∧ Binds K fd [x] [])
    (hsp : ∀ (H : Hp) (o : Obj), H a = some (.frz o (.lst (ns.map V.int))) → (∀ p ∈ cs, H p.2 = some (.tbl #[])) → sp [.ref a] H (fun v _ => v = .bl true) fun _ _ _ => False) :
    codeAny (model P w) callerA (.call (.ref fa) ⟨[.ref a], []⟩) (fun r s' => r = .ok (.ret (.bool true)) ∧ OldK s₁.heap s'.heap ∧ s'.os = s₁.os ∧ AllBare s'.gens) s₁ := by
  let ob : Obj := { cls := .type "list", data := .seq vs.toArray }
  let ts : List Addr := cs.map (·.2)
  let H : Hp := H0 a ob (ns.map V.int) ts
  have rv := vals_ints hi
  have isT : ∀ b ∈ ts, s₁.heap.get? b = some { cls := .none, data := .fields #[] } := fun b hb => by
    obtain ⟨p, hp, rfl⟩ := List.mem_map.mp hb
    exact tb p hp
  have aT : a ∉ ts := fun z => by
    have q := isT a z
    rw [ha] at q
    exact nomatch congrArg Obj.data (Option.some.inj q)
  have Ha : H a = some (.frz ob (.lst (ns.map V.int))) := if_pos rfl
  have Ht : ∀ b ∈ ts, H b = some (.tbl #[]) := fun b hb => (if_neg (show ¬ b = a from fun z => aT (z ▸ hb))).trans (if_pos hb)
  have Hn : ∀ b, b ≠ a → b ∉ ts → H b = none := fun b h1 h2 => (if_neg h1).trans (if_neg h2)
  have all : ∀ b, b = a ∨ b ∈ ts ∨ H b = none := fun b => by
    by_cases h1 : b = a
    · exact .inl h1
    · by_cases h2 : b ∈ ts
      · exact .inr (.inl h2)
      · exact .inr (.inr (Hn b h1 h2))
  have hok : HOk P w H s₁.heap := fun b u e => by
    rcases all b with rfl | h | h
    · rw [Ha] at e
      cases e
      exact ⟨ha, by rw [List.length_map]; exact hl, vs, _, rv, ha⟩
    · rw [Ht b h] at e
      cases e
      exact isT b h
    · rw [h] at e
      cases e
  -- what is neither the script nor a table is untracked
  have un : ∀ {b : Addr} {o : Obj}, s₁.heap.get? b = some o → (∀ vs n, o.data ≠ .seq vs n) → o.data ≠ .fields #[] → H b = none := fun {b o} e h1 h2 => by
    rcases all b with rfl | h | h
    · rw [ha] at e
      cases e
      exact (h1 _ _ rfl).elim
    · rw [isT b h] at e
      cases e
      exact (h2 rfl).elim
    · exact h
  have unD : ∀ {b : Addr} {o : Obj} {es : Array DictEntry} {ep : Nat}, s₁.heap.get? b = some o → o.data = .dict es ep → H b = none := fun {b o es ep} e d =>
    un e (fun vs n z => nomatch d.symm.trans z) fun z => nomatch d.symm.trans z
  have up : ∀ {b : Addr} {o : Obj}, s₁.heap.get? b = some o → H b = none → (hidT s₁.heap H).get? b = some o := fun e n => hidT_get e n
  have nsB : ∀ {b : Addr} {m : Str → Option Value}, s₁.heap.Ns b m → (hidT s₁.heap H).Ns b m := fun {b m} ⟨o, es, ep, e, d, r⟩ => ⟨o, es, ep, up e (unD e d), d, r⟩
  have kIn : K.In (hidT s₁.heap H) := fun b o e => by
    have g := KX b o e
    refine up g ?_
    rcases all b with rfl | h | h
    · rw [ha] at g
      cases g
      exact absurd rfl (kl _ _ e)
    · obtain ⟨p, hp, rfl⟩ := List.mem_map.mp h
      rw [tk p hp] at e
      cases e
    · exact h
  have mod : Mod K mg (hidT s₁.heap H) := ⟨kIn, nsB gl, ⟨mb, nsB bl, bb⟩, by
    obtain ⟨mc, h1, h2⟩ := lm
    exact ⟨mc, nsB h1, h2⟩⟩
  have tabs : ∀ p ∈ cs, LamX.TabB (hidT s₁.heap H) mg p.1 p.2 := fun p hp => by
    have q := tb p hp
    refine ⟨?_, ?_, fun z => ?_⟩
    · obtain ⟨o, us, file, tf, flags, tg, inF, text, tt, e1, r1, r2, r3, rest⟩ := tc p hp
      refine ⟨o, us, file, tf, flags, tg, inF, text, tt, up e1 (un e1 (fun _ _ z => nomatch r2.symm.trans z) fun z => ?_), r1, r2, r3, rest⟩
      rw [r2] at z
      cases z
      simp at r3
    · obtain ⟨bm, om, b1, b2, b3, b4, b5, b6⟩ := hm
      refine ⟨bm, om, b1, b2, fun z => ?_, fun z => ?_, up b3 (un b3 (fun _ _ z => nomatch b6.symm.trans z) fun z => nomatch b6.symm.trans z), b4, b5, b6⟩
      · obtain ⟨o, es, ep, e, d, _⟩ := gl
        rw [z, e] at b3
        cases b3
        exact nomatch d.symm.trans b6
      · rw [z, q] at b3
        cases b3
        cases b6
    · obtain ⟨o, es, ep, e, d, _⟩ := gl
      rw [z, q] at e
      cases e
      cases d
  have e0 : Env0 P w K mg (hidT s₁.heap H) callerA [] s₁ H := ⟨rfl, mod, fun b o e => of_hidT e, Nat.le_of_eq (hidT_size _ _), trivial, fun b hb => absurd hb (List.not_mem_nil), hok, .of_eq gn⟩
  obtain ⟨fd, x, G, hb⟩ := F _ kIn (nsB gl) tabs
  refine codeAny_mono (G.run callerA [] s₁ H ⟨[.ref a], []⟩ [.ref a] [.ref a] _ _ hr rfl e0 (hb s₁ [.ref a] KX rfl) (.cons rfl .nil) (hsp H ob Ha fun p hp => Ht _ (List.mem_map.mpr ⟨p, hp, rfl⟩))) fun r s' z => ?_
  match r, z with
  | .error u, ⟨_, _, _, _, _, _, _, _, _, _, _, _, q⟩ => exact q.elim
  | .ok .next, z => exact z.elim
  | .ok .brk, z => exact z.elim
  | .ok .cont, z => exact z.elim
  | .ok (.ret u), ⟨v, H', os, bare, un', hok', r', q⟩ =>
    have q : v = .bl true := q
    subst q
    obtain rfl : u = Value.bool true := r'
    have stay : ∀ b o, b ∉ ts → s₁.heap.get? b = some o → s'.heap.get? b = some o := fun b o nb e => by
      rcases all b with rfl | h | h
      · obtain ⟨e1, _⟩ := hok b _ Ha
        obtain ⟨e2, _⟩ := hok' b _ (un'.frzs b ob _ Ha)
        rw [e] at e1
        cases e1
        exact e2
      · exact absurd h nb
      · exact un'.keep b o e h (fun z => nomatch z) (fun z => nomatch z)
    have grow : ∀ b ∈ ts, ∃ more : Array Value, s'.heap.get? b = some { cls := .none, data := .fields more } := fun b h => by
      obtain ⟨more, z⟩ := un'.tbls b #[] (Ht b h)
      exact ⟨_, hok' b _ z⟩
    refine ⟨rfl, ⟨fun b o e => ?_, fun b o e => ?_⟩, os, bare⟩
    · by_cases h : b ∈ ts
      · obtain ⟨p, hp, rfl⟩ := List.mem_map.mp h
        obtain ⟨more, g⟩ := grow _ h
        rw [tb p hp] at e
        cases e
        exact .inr (.inl ⟨((tc p hp).tab (tb p hp)).isCodeTable, rfl, #[], more, rfl, by rw [Array.empty_append]; exact g⟩)
      · exact .inl (stay b o h e)
    · by_cases h : b ∈ ts
      · obtain ⟨more, g⟩ := grow b h
        exact ⟨_, g⟩
      · exact ⟨o, stay b o h e⟩
/-- the plain law gives the promise -/
theorem law_sp {rc : Rc} {run : List D → Hs → R D} {a : Addr} {o : Obj} {ns : List Int} {H : Hp} {h' : Hs} (ev : run [.ref 0] [.frz (ns.map .int)] = .ok (.bool true) h') (Ha : H a = some (.frz o (.lst (ns.map V.int)))) (tabs : LamX.Tabs rc.T H) :
    spC rc 1 run [.ref a] H (fun v _ => v = .bl true) fun _ _ _ => False := by
  refine ⟨[a], [.frz (ns.map .int)], [.ref 0], ⟨tabs, rfl, by simp, fun j mo b e1 e2 => ?_⟩, ?_, rfl, ?_⟩
  · cases j with
    | zero =>
      simp at e1 e2
      subst e1 e2
      refine ⟨_, o, Ha, ?_⟩
      have : ∀ l : List Int, RDs rc [a] H (l.map D.int) (l.map V.int) := fun l => by
        induction l with
        | nil => exact RDs.nil
        | cons i l ih => exact RDs.cons (by simp only [RD]) ih
      exact this ns
    | succ j => simp at e1
  · exact RDs.cons (by simp only [RD]; exact ⟨a, rfl, rfl⟩) RDs.nil
  · rw [ev]
    intro as' H' _ _ v r
    simp only [RD] at r
    exact r
end MI
end
section
/-! MX: a law's row by the mini interpreter's run. -/
namespace MI
open PySem PySem.Spec PyProof.Rows L2
/-! ### what is checked of the text -/
def dOf (fd : Fd) (st : Stmt) : He.DefD := ⟨(fd.name, none), fd.name, fd.name, defArgs st, defBody st, defScope st, [], []⟩
def parsOf (fd : Fd) : List Str := fd.names.take fd.np
def plainA (pa : Arguments) (ps : List Str) : Bool := match pa with
  | ⟨[], as, none, [], [], none, []⟩ => decide (as.map (·.arg) = ps) && decide (as.length ≤ 8)
  | _ => false
def scB (N ps : List Str) (sc : Scope) : Bool := decide (sc.kind = .function) && !sc.isCoroutine && !sc.isGenerator && decide N.Nodup && decide (N.take ps.length = ps) &&
  (ps.all fun x => decide (sc.names.lookup x = some .local) || decide (sc.names.lookup x = some .cell)) && sc.names.all fun y => !decide (y.2 = .free)
def defChk (M : Pg) (fd : Fd) (st : Stmt) : Bool := plainA (defArgs st) (parsOf fd) && scB fd.names (parsOf fd) (defScope st) && decide (fd.np ≤ fd.names.length) && (offB fd.body || mSs M fd.names (defScope st) ⟨true, true, fd.lam, true, none⟩ fd.body (defBody st))
theorem scB_ok {N ps : List Str} {sc : Scope} (h : scB N ps sc = true) : FnScope N ps sc := by
  unfold scB at h
  simp only [Bool.and_eq_true, Bool.or_eq_true, Bool.not_eq_true', decide_eq_true_eq, decide_eq_false_iff_not, List.all_eq_true] at h
  obtain ⟨⟨⟨⟨⟨⟨h1, h2⟩, h3⟩, h4⟩, h5⟩, h6⟩, h7⟩ := h
  exact ⟨h1, h2, h3, h4, h5, h6, h7⟩
/-- how the arguments of each def are bound -/
def BndOk (M : Pg) (sts : List Stmt) : Prop := ∀ (m : Nat) (fd : Fd) (st : Stmt), M.fns[m]? = some fd → sts[m]? = some st → ∀ (kV doc pm : Value) (an : Option Addr) (cdv ct : Value) (us : List Value), us.length = (parsOf fd).length →
  bindArgs (PySem.W.fnOf fd.name fd.name (defArgs st) (defBody st) (defScope st) .none kV doc pm an cdv ct) ⟨us, []⟩ = pure ((parsOf fd).zip us)
/-! ### constants -/
mutual
def conV (K : PySem.W.Frag) : D → Value → Bool
  | .none, u => (match u with
    | .none => true
    | _ => false)
  | .bool b, u => (match u with
    | .bool c => b == c
    | _ => false)
  | .int i, u => (match u with
    | .int j _ => i == j
    | _ => false)
  | .str s, u => (match u with
    | .str t _ => decide (s = t)
    | _ => false)
  | .tup xs, u => (match u with
    | .ref a => (match K.lookup a with
      | some ⟨.type c, _, .seq its _, _⟩ => decide (c = "tuple") && decide (its.size ≤ sizeLine) && conVs K xs its.toList
      | _ => false)
    | _ => false)
  | _, _ => false
def conVs (K : PySem.W.Frag) : List D → List Value → Bool
  | [], us => (match us with
    | [] => true
    | _ => false)
  | x :: xs, us => (match us with
    | u :: us => conV K x u && conVs K xs us
    | _ => false)
end
mutual
theorem conV_ok {rc : Rc} : ∀ {d : D} {u : Value}, conV rc.K d u = true → ∃ v, RelV v u ∧ Const_ rc d v
  | .none, u, h => by
    unfold conV at h
    split at h
    · exact ⟨.non, rfl, fun _ _ => by simp only [RD]⟩
    · cases h
  | .bool b, u, h => by
    unfold conV at h
    split at h
    · have e := eq_of_beq h
      subst e
      exact ⟨.bl b, rfl, fun _ _ => by simp only [RD]⟩
    · cases h
  | .int i, u, h => by
    unfold conV at h
    split at h
    · have e := eq_of_beq h
      subst e
      exact ⟨.int i, ⟨_, rfl⟩, fun _ _ => by simp only [RD]⟩
    · cases h
  | .str i, u, h => by
    unfold conV at h
    split at h
    · have e := of_decide_eq_true h
      subst e
      exact ⟨.str i, ⟨_, rfl⟩, fun _ _ => by simp only [RD]⟩
    · cases h
  | .tup xs, u, h => by
    unfold conV at h
    split at h
    · rename_i a
      split at h
      · rename_i c od its n sl hk
        obtain ⟨h, h3⟩ := an h
        obtain ⟨h1, h2⟩ := an h
        obtain ⟨vs, r1, r2⟩ := conVs_ok h3
        refine ⟨.ref a, rfl, fun as H => ?_⟩
        simp only [RD]
        exact ⟨a, vs, rfl, .inr ⟨_, its, n, hk, congrArg Value.type (of_decide_eq_true h1), rfl, of_decide_eq_true h2, r1⟩, r2 as H⟩
      · cases h
    · cases h
  | .ref _, u, h => by unfold conV at h; cases h
  | .fn _, u, h => by unfold conV at h; cases h
  | .clo _, u, h => by unfold conV at h; cases h
theorem conVs_ok {rc : Rc} : ∀ {ds : List D} {us : List Value}, conVs rc.K ds us = true → ∃ vs, Vals vs us ∧ ∀ as H, RDs rc as H ds vs
  | [], us, h => by
    unfold conVs at h
    split at h
    · exact ⟨[], .nil, fun _ _ => RDs.nil⟩
    · cases h
  | d :: ds, us, h => by
    unfold conVs at h
    split at h
    · obtain ⟨h1, h2⟩ := an h
      obtain ⟨v, r1, r2⟩ := conV_ok h1
      obtain ⟨vs, q1, q2⟩ := conVs_ok h2
      exact ⟨v :: vs, .cons r1 q1, fun as H => RDs.cons (r2 as H) (q2 as H)⟩
    · cases h
end
/-! ### askers -/
def askP : List Stmt → Option (Str × Str × Nat × Nat × List Pos)
  | [.Try [.Expr (.Call (.Name a p0) [] [] p1) p2] [.ExceptHandler (some (.Name y p3)) none [.Return (some (.Constant (.bool true) j1 p4)) p5] p6] [] [] p7, .Return (some (.Constant (.bool false) j2 p8)) p9] => some (a, y, j1, j2, [p0, p1, p2, p3, p4, p5, p6, p7, p8, p9])
  | _ => none
theorem askP_ok {b : List Stmt} {a y : Str} {j1 j2 : Nat} {q : List Pos} (h : askP b = some (a, y, j1, j2, q)) : b = askB a y j1 j2 q := by
  unfold askP at h
  split at h
  · simp only [Option.some.injEq, Prod.mk.injEq] at h
    obtain ⟨rfl, rfl, rfl, rfl, rfl⟩ := h
    rfl
  · cases h
def askC (M : Pg) (sts : List Stmt) (q : Nat × Nat) : Bool := match M.fns[q.1]?, sts[q.1]?, M.cls[q.2]? with
  | some fd, some st, some y => (match askP (defBody st) with
    | some (a, z, _, _, _) => decide (y = z) && decide (parsOf fd = [a]) && visB (defScope st) a && glB (defScope st) y && ownB a
    | none => false)
  | _, _, _ => false
/-- all that is looked at in the text -/
def txtB (M : Pg) (sts : List Stmt) : Bool := decide (M.fns.length = sts.length) && ((M.fns.zip sts).all fun p => defChk M p.1 p.2) && (M.ask.all fun q => askC M sts q) && M.cls.all fun x => !(x == ("__debug__" : Str))
/-! ### what is looked at in the heap -/
def fnsOf (M : Pg) (sts : List Stmt) : List He.DefD := (M.fns.zip sts).map fun p => dOf p.1 p.2
def exmL (M : Pg) : List He.Fa := (List.range M.cls.length).flatMap fun a => (List.range M.cls.length).map fun b => .exm (M.cls.getD a "") (M.cls.getD b "") (M.sub a b)
def faOf (M : Pg) : List He.Fa := M.blt.map .free ++ M.fns.map (fun f => .glo f.name) ++ M.cls.map .glo ++ M.cls.map .exc ++ exmL M
def tfOf (M : Pg) : List He.Defn := (M.fns.filter (·.lam)).map fun f => (f.name, none)
def moreB (M : Pg) (K : PySem.W.Frag) : Bool := (K.all fun q => match q.2.cls with
    | .type c => !decide (c = "list")
    | _ => true) && (M.con.all fun p => (match PySem.W.nsIn K mainGlobals p.1 with
    | some (some u) => conV K p.2 u
    | _ => false)) && decide ((tfOf M).map fun p => (He.cT K p).2).Nodup
abbrev hkOf (n : Nat) (M : Pg) (sts : List Stmt) : PySem.W.Hook := He.hookX n (faOf M) (fnsOf M sts) [] (tfOf M) (moreB M)
def rcOf (M : Pg) (K : PySem.W.Frag) (clo : Nat → Addr → Value → Addr → Value → Heap → Prop) (cq : Str) : Rc where
  K := K
  fa := fun m => He.ga K ((M.fns.getD m default).name)
  ca := fun m => He.ga K (M.cls.getD m "")
  nx := M.cls.length
  nf := M.fns.length
  T := (tfOf M).map fun p => ((He.cT K p).2, p.1 ++ ".<locals>." ++ "<lambda>")
  clo := clo
  cq := cq
/-- .. of the law's own def -/
def lawC (M : Pg) (sts : List Stmt) (m0 : Nat) (lb : Ss) : Bool := match M.fns[m0]?, sts[m0]? with
  | some fd, some st => decide (fd.np = 1) && mSs M fd.names (defScope st) ⟨true, true, fd.lam, true, some (okL M fd.names)⟩ lb (defBody st)
  | _, _ => false
theorem zip_mem {α β : Type} : ∀ {xs : List α} {ys : List β} {m : Nat} {x : α} {y : β}, xs[m]? = some x → ys[m]? = some y → (x, y) ∈ xs.zip ys
  | [], _, _, _, _, h, _ => by simp at h
  | _ :: _, [], _, _, _, _, h => by simp at h
  | a :: xs, b :: ys, 0, x, y, h1, h2 => by
    simp at h1 h2
    subst h1 h2
    simp
  | a :: xs, b :: ys, m + 1, x, y, h1, h2 => List.mem_cons_of_mem _ (zip_mem (by simpa using h1) (by simpa using h2))
section
variable {M : Pg} {sts : List Stmt} {n : Nat} {w : World} {h : Heap} {K : PySem.W.Frag} {mg : Str → Option Value} {clo : Nat → Addr → Value → Addr → Value → Heap → Prop} {cq : Str}
theorem getD_of {α : Type} {xs : List α} {m : Nat} {x d : α} (h : xs[m]? = some x) : xs.getD m d = x := by
  rw [List.getD_eq_getElem?_getD, h]
  rfl
/-- a def's row -/
theorem txt_def (tx : txtB M sts = true) {m : Nat} {fd : Fd} (hm : M.fns[m]? = some fd) : ∃ st, sts[m]? = some st ∧ defChk M fd st = true ∧ dOf fd st ∈ fnsOf M sts := by
  unfold txtB at tx
  obtain ⟨tx, _⟩ := an tx
  obtain ⟨tx, _⟩ := an tx
  obtain ⟨h1, h2⟩ := an tx
  have h1 := of_decide_eq_true h1
  have lt : m < sts.length := h1 ▸ (List.getElem?_eq_some_iff.mp hm).1
  have hs : sts[m]? = some sts[m] := List.getElem?_eq_getElem lt
  have mem := zip_mem hm hs
  exact ⟨_, hs, List.all_eq_true.mp h2 _ mem, List.mem_map.mpr ⟨_, mem, rfl⟩⟩
theorem gm_of (KX : K.In h) (G : h.Ns mainGlobals mg) (c : He.SaysX (faOf M) (fnsOf M sts) [] (tfOf M) (moreB M) w h K) (tx : txtB M sts = true) : Gm M (rcOf M K clo cq) mg := by
  have F : ∀ {f : He.Fa}, f ∈ faOf M → f.ok K = true := fun hf => c.t.d.facts hf
  have mo := c.more
  unfold moreB at mo
  obtain ⟨mo, _⟩ := an mo
  obtain ⟨_, mc⟩ := an mo
  have inFa : ∀ {f : He.Fa}, f ∈ M.blt.map .free ∨ f ∈ M.fns.map (fun f => .glo f.name) ∨ f ∈ M.cls.map .glo ∨ f ∈ M.cls.map .exc ∨ f ∈ exmL M → f ∈ faOf M := fun {f} z => by
    unfold faOf
    simp only [List.mem_append]
    rcases z with z | z | z | z | z
    · exact .inl (.inl (.inl (.inl z)))
    · exact .inl (.inl (.inl (.inr z)))
    · exact .inl (.inl (.inr z))
    · exact .inl (.inr z)
    · exact .inr z
  have fnAt : ∀ (m : Nat) (fd : Fd), M.fns[m]? = some fd → (rcOf M K clo cq).fa m = He.ga K fd.name := fun m fd hm => by
    show He.ga K ((M.fns.getD m default).name) = _
    rw [getD_of hm]
  have clAt : ∀ (m : Nat) (y : Str), M.cls[m]? = some y → (rcOf M K clo cq).ca m = He.ga K y := fun m y hm => by
    show He.ga K (M.cls.getD m "") = _
    rw [getD_of hm]
  refine ⟨fun x hx => ?_, fun m fd hm => ?_, fun m p hp => ?_, fun m y hy => ?_, fun a b ha hb => ?_, fun m hm => ?_⟩
  · exact He.free_ok KX G (F (inFa (.inl (List.mem_map.mpr ⟨x, hx, rfl⟩))))
  · refine ⟨?_, (List.getElem?_eq_some_iff.mp hm).1⟩
    rw [fnAt m fd hm]
    exact He.glo_ok KX G (F (inFa (.inr (.inl (List.mem_map.mpr ⟨fd, List.mem_of_getElem? hm, rfl⟩)))))
  · have q := List.all_eq_true.mp mc p (List.mem_of_getElem? hp)
    cases e : PySem.W.nsIn K mainGlobals p.1 with
    | none => rw [e] at q; cases q
    | some o =>
      rw [e] at q
      cases o with
      | none => cases q
      | some u =>
        obtain ⟨v, r1, r2⟩ := conV_ok (rc := rcOf M K clo cq) (show conV K p.2 u = true from q)
        exact ⟨v, u, PySem.W.mg_of KX G e, r1, r2⟩
  · have g := He.glo_ok KX G (F (inFa (.inr (.inr (.inl (List.mem_map.mpr ⟨y, List.mem_of_getElem? hy, rfl⟩))))))
    obtain ⟨e1, e2, e3, e4⟩ := He.exc_ok (F (inFa (.inr (.inr (.inr (.inl (List.mem_map.mpr ⟨y, List.mem_of_getElem? hy, rfl⟩)))))))
    have db : (y == ("__debug__" : Str)) = false := by
      unfold txtB at tx
      simpa using List.all_eq_true.mp (an tx).2 y (List.mem_of_getElem? hy)
    have ca := clAt m y hy
    refine ⟨(List.getElem?_eq_some_iff.mp hy).1, ?_, ?_, ?_, ?_, db, ⟨_, _, _, _, PySem.F.excBase_ValueError, ?_⟩⟩ <;> rw [ca]
    · exact g
    · exact e2
    · exact e3
    · exact e4
    · exact e1
  · have e := He.exm_ok (F (inFa (.inr (.inr (.inr (.inr (List.mem_flatMap.mpr ⟨a, List.mem_range.mpr ha, List.mem_map.mpr ⟨b, List.mem_range.mpr hb, rfl⟩⟩)))))))
    exact e
  · have hm' : M.fns[m]? = some M.fns[m] := List.getElem?_eq_getElem hm
    obtain ⟨st, _, _, hd⟩ := txt_def tx hm'
    obtain ⟨fd, FD⟩ := c.t.d.defs hd
    have kp := FD.kp
    rw [fnAt m _ hm']
    exact kp
end
end MI
end
section
/-! MY: a law's row holds where the mini interpreter says so. -/
namespace MI
open PySem PySem.Spec PyProof.Rows L2
section
variable {M : Pg} {sts : List Stmt} {n : Nat} {w : World} {h : Heap} {K : PySem.W.Frag} {mg : Str → Option Value} {clo : Nat → Addr → Value → Addr → Value → Heap → Prop} {cq : Str}
theorem ask_of (c : He.SaysX (faOf M) (fnsOf M sts) [] (tfOf M) (moreB M) w h K) (tx : txtB M sts = true) (bn : BndOk M sts) : ∀ X : Cx, X.K = K → ∀ q ∈ M.ask, AskOk M (rcOf M K clo cq) X q.1 q.2 := by
  rintro X rfl q hq
  have ta : askC M sts q = true := by
    unfold txtB at tx
    exact List.all_eq_true.mp (an (an tx).1).2 q hq
  unfold askC at ta
  split at ta
  · rename_i fd st y hf hs hy
    split at ta
    · rename_i a z j1 j2 qs hp
      obtain ⟨ta, t5⟩ := an ta
      obtain ⟨ta, t4⟩ := an ta
      obtain ⟨ta, t3⟩ := an ta
      obtain ⟨t1, t2⟩ := an ta
      have t1 := of_decide_eq_true t1
      have t2 := of_decide_eq_true t2
      subst t1
      obtain ⟨st', hs', dc, hd⟩ := txt_def tx hf
      rw [hs] at hs'
      cases hs'
      obtain ⟨f, F⟩ := c.t.d.defs hd
      have F : FunD X.K fd.name fd.name (defArgs st) (defBody st) (defScope st) [] [] (He.ga X.K fd.name) f := F
      obtain ⟨dc, _⟩ := an dc
      obtain ⟨dc, _⟩ := an dc
      obtain ⟨_, d2⟩ := an dc
      have S := scB_ok d2
      have B : Binds X.K f (parsOf fd) [] := F.bindsN (bn q.1 fd st hf hs)
      have e0 : (rcOf M X.K clo cq).fa q.1 = He.ga X.K fd.name := by
        show He.ga X.K ((M.fns.getD q.1 default).name) = _
        rw [getD_of hf]
      rw [t2] at S B
      have n0 : fd.names[0]? = some a := by
        have z := S.pre
        cases hn : fd.names with
        | nil => rw [hn] at z; simp at z
        | cons b r =>
          rw [hn] at z
          simp at z
          simp [z]
      obtain ⟨o1, o2⟩ := ownB_ok t5
      have va : Vis (defScope st) a := by
        unfold visB at t3
        simp only [Bool.or_eq_true, decide_eq_true_eq] at t3
        rcases t3 with (t3 | t3) | t3
        · exact .inl t3
        · exact .inr (.inl t3)
        · exact .inr (.inr t3)
      exact ⟨fd, defArgs st, defScope st, a, y, j1, j2, qs, f, fd.names, hf, hy, e0 ▸ (askP_ok hp) ▸ F, B, S, n0, va, of_decide_eq_true t4, o1, o2⟩
    · cases ta
  · cases ta
theorem lam_ok (c : He.SaysX (faOf M) (fnsOf M sts) [] (tfOf M) (moreB M) w h K) (tx : txtB M sts = true) {base : Heap} (tb : ∀ p ∈ (tfOf M).map (He.cT K), LamX.TabB base mg p.1 p.2) {m : Nat} {fd : Fd} (hf : M.fns[m]? = some fd) {pa : Arguments} {body : List Stmt} {sc : Scope} {f : FuncData} (F : FunD K fd.name fd.name pa body sc [] [] (He.ga K fd.name) f) (hl : fd.lam = true) : LamOk M (rcOf M K clo cq) K mg base fd.name f := by
  obtain ⟨oc, od, dV, kV, doc, pm, an_, cdv, ct, osl, ef, lk, hcd, _, _⟩ := F.ex
  obtain ⟨cc, ec⟩ := He.codeIn_ref hcd
  have fc : f.code = .ref cc := by
    rw [ef]
    exact ec
  have cd : He.codeOf K (fd.name, none) = cc := He.codeOf_eq (p := (fd.name, none)) lk fc
  have mem : ((fd.name, none) : He.Defn) ∈ tfOf M := List.mem_map.mpr ⟨fd, List.mem_filter.mpr ⟨List.mem_of_getElem? hf, hl⟩, rfl⟩
  have tt := tb (He.cT K (fd.name, none)) (List.mem_map.mpr ⟨_, mem, rfl⟩)
  have e1 : (He.cT K (fd.name, none)).1 = cc := cd
  refine ⟨cc, (He.cT K (fd.name, none)).2, fc, e1 ▸ tt, List.mem_map.mpr ⟨_, mem, rfl⟩, fun p hp ep => ?_⟩
  obtain ⟨q, hq, rfl⟩ := List.mem_map.mp hp
  have mo := c.more
  unfold moreB at mo
  have nd := of_decide_eq_true (an mo).2
  have eq : q = (fd.name, none) := by
    obtain ⟨i, hi, ei⟩ := List.mem_iff_getElem.mp hq
    obtain ⟨j, hj, ej⟩ := List.mem_iff_getElem.mp mem
    have hi' : i < ((tfOf M).map fun p => (He.cT K p).2).length := by simpa using hi
    have hj' : j < ((tfOf M).map fun p => (He.cT K p).2).length := by simpa using hj
    have : ((tfOf M).map fun p => (He.cT K p).2)[i] = ((tfOf M).map fun p => (He.cT K p).2)[j] := by
      rw [List.getElem_map, List.getElem_map, ei, ej]
      exact ep
    have ij := (List.getElem_inj nd).mp this
    subst ij
    rw [← ei, ← ej]
  rw [eq]
theorem def_ok (c : He.SaysX (faOf M) (fnsOf M sts) [] (tfOf M) (moreB M) w h K) (tx : txtB M sts = true) (bn : BndOk M sts) {base : Heap} (tb : ∀ p ∈ (tfOf M).map (He.cT K), LamX.TabB base mg p.1 p.2) : ∀ m fd, M.fns[m]? = some fd → DefOk M (rcOf M K clo cq) K mg base m fd := by
  intro m fd hf
  obtain ⟨st, hs, dc, hd⟩ := txt_def tx hf
  obtain ⟨f, F⟩ := c.t.d.defs hd
  have F : FunD K fd.name fd.name (defArgs st) (defBody st) (defScope st) [] [] (He.ga K fd.name) f := F
  have e0 : (rcOf M K clo cq).fa m = He.ga K fd.name := by
    show He.ga K ((M.fns.getD m default).name) = _
    rw [getD_of hf]
  obtain ⟨dc, d4⟩ := an dc
  obtain ⟨dc, d3⟩ := an dc
  obtain ⟨_, d2⟩ := an dc
  have B : Binds K f (parsOf fd) [] := F.bindsN (bn m fd st hf hs)
  refine ⟨defArgs st, defBody st, defScope st, f, e0 ▸ F, B, scB_ok d2, of_decide_eq_true d3, ?_⟩
  rcases Bool.or_eq_true_iff.mp d4 with d4 | d4
  · exact .inl d4
  · exact .inr ⟨d4, fun hl => lam_ok c tx tb hf F hl⟩
/-- THE END: a law whose run gives True at every script -/
theorem walk_all {l : PySem.W.OpenLaw} {most N fuel m0 : Nat} {q : Program} {loose : List Str} {XP : (Str → Option Value) → Heap → Prop} {d : DefRec} {fd : Fd} {lb : Ss}
    (hn : l.most = some most) (hn2 : most ≤ sizeLine) (hdf : d.params.defaults = []) (hr : Room (fuel + 3) callerA) (tx : txtB M sts = true) (bn : BndOk M sts) (hm0 : M.fns[m0]? = some fd) (hname : d.name = fd.name) (lc : lawC M sts m0 lb = true)
    (ev : ∀ ns : List Int, ns.length ≤ most → (∀ z ∈ ns, Builtin.Int.intBits z ≤ 1048576) → ∃ h', runL M (fuel + 2) fd lb [.ref 0] [.frz (ns.map .int)] = .ok (.bool true) h') :
    PySem.W.WalkO q loose XP (hkOf N M sts).says l.row.toRowW d [] (fun f vs => PySem.call f vs) := by
  refine Att.attach_callB hn hdf fun w s₀ s₁ mg mb fa o pm cd doc a vs ns G Y ho hd hcd hmg hobj hints hlen hbits hg => ?_
  obtain ⟨K, KX, c⟩ := Y
  have gm : ∀ clo cq, Gm M (rcOf M K clo cq) mg := fun clo cq => gm_of KX G.T.g c tx
  have hfa : ∀ clo cq, (rcOf M K clo cq).fa m0 = fa := fun clo cq => by
    have g1 := ((gm clo cq).fn m0 fd hm0).1
    rw [← hname, hmg] at g1
    exact (Value.ref.inj (Option.some.inj g1)).symm
  have efa : He.ga K fd.name = fa := by
    have z := hfa (fun _ _ _ _ _ _ => False) ""
    rw [← z]
    show _ = He.ga K ((M.fns.getD m0 default).name)
    rw [getD_of hm0]
  obtain ⟨h', e'⟩ := ev ns hlen hbits
  obtain ⟨st, hs, dc, hdd⟩ := txt_def tx hm0
  obtain ⟨dc, d4⟩ := an dc
  obtain ⟨dc, d3⟩ := an dc
  obtain ⟨_, d2⟩ := an dc
  obtain ⟨np1, lc⟩ : fd.np = 1 ∧ mSs M fd.names (defScope st) ⟨true, true, fd.lam, true, some (okL M fd.names)⟩ lb (defBody st) = true := by
    unfold lawC at lc
    rw [hm0, hs] at lc
    obtain ⟨l1, l2⟩ := an lc
    exact ⟨of_decide_eq_true l1, l2⟩
  obtain ⟨f, F⟩ := c.t.d.defs hdd
  have F : FunD K fd.name fd.name (defArgs st) (defBody st) (defScope st) [] [] (He.ga K fd.name) f := F
  have B : Binds K f (parsOf fd) [] := F.bindsN (bn m0 fd st hm0 hs)
  have kl : ∀ b o, K.lookup b = some o → o.cls ≠ .type "list" := fun b o e z => by
    have mo := c.more
    unfold moreB at mo
    have q := List.all_eq_true.mp (an (an mo).1).1 _ (He.lookup_mem e)
    dsimp only at q
    rw [z] at q
    exact absurd q (by decide)
  have lam : ∀ p ∈ (tfOf M).map (He.cT K), PySem.W.CodeHd s₁.heap p.1 p.2 := fun p hp => by
    obtain ⟨q, hq, rfl⟩ := List.mem_map.mp hp
    exact PySem.W.codeHd_of_K KX (c.hd q hq)
  refine law_end (cs := (tfOf M).map (He.cT K)) (sp := fun vs H Q E => ∀ clo cq, spC (rcOf M K clo cq) fd.np (runL M (fuel + 2) fd lb) vs H Q E) KX kl G.T.g G.T.b G.T.builtins G.T.nolimit hg (fun p hp => ?_) (fun p hp => ?_) lam G.T.bmain hobj hints (Nat.le_trans hlen hn2) hr (fun base kb gb tb => ?_) fun H ob Ha Ht clo cq => ?_
  · obtain ⟨q, hq, rfl⟩ := List.mem_map.mp hp
    exact c.empty q hq
  · obtain ⟨q, hq, rfl⟩ := List.mem_map.mp hp
    exact c.out q hq
  · have g := law_fn (P := l.prog) (w := w) (M := M) (K := K) (mg := mg) (base := base) (rcs := rcOf M K) (j := fuel) (m0 := m0) (lb := lb) (fun _ _ => ⟨rfl, rfl⟩) (fun _ _ => rfl) gm (fun _ _ => ask_of c tx bn) (fun _ _ => def_ok c tx bn tb) hfa (efa ▸ F) B (scB_ok d2) (of_decide_eq_true d3) lc (fun _ _ hl => lam_ok c tx tb hm0 F hl)
    have lp : (fd.names.take fd.np).length = 1 := by
      rw [List.length_take]
      have := of_decide_eq_true d3
      omega
    have B : Binds K f (fd.names.take fd.np) [] := B
    match fd.names.take fd.np, lp, g, B with
    | [x], _, g1, g2 => exact ⟨f, x, g1, g2⟩
  · rw [np1]
    refine law_sp e' Ha fun p hp => ?_
    obtain ⟨q, hq, rfl⟩ := List.mem_map.mp hp
    exact LamX.TabS.nil (Ht (He.cT K q) (List.mem_map.mpr ⟨q, hq, rfl⟩))
/-- how a def's arguments are bound -/
def Bnd1 (fd : Fd) (st : Stmt) : Prop := ∀ (kV doc pm : Value) (an : Option Addr) (cdv ct : Value) (us : List Value), us.length = (parsOf fd).length →
  bindArgs (PySem.W.fnOf fd.name fd.name (defArgs st) (defBody st) (defScope st) .none kV doc pm an cdv ct) ⟨us, []⟩ = pure ((parsOf fd).zip us)
inductive All2 {α β : Type} (r : α → β → Prop) : List α → List β → Prop where
  | nil : All2 r [] []
  | cons {a : α} {b : β} {as : List α} {bs : List β} (h : r a b) (t : All2 r as bs) : All2 r (a :: as) (b :: bs)
theorem bnd_all {fs : List Fd} {ss : List Stmt} (h : All2 Bnd1 fs ss) : ∀ (m : Nat) (fd : Fd) (st : Stmt), fs[m]? = some fd → ss[m]? = some st → Bnd1 fd st := by
  induction h with
  | nil => intro m fd st h1 _; simp at h1
  | cons hh _ ih =>
    intro m fd st h1 h2
    cases m with
    | zero =>
      simp at h1 h2
      subst h1 h2
      exact hh
    | succ m => exact ih m fd st (by simpa using h1) (by simpa using h2)
end
end MI
end
section
/-! NA: runs by hand: what the plain laws use. -/
namespace MI
open PySem
section
variable {M : Pg} {c : Ct} {env : Env} {h h1 h0 : Hs}
theorem callF_go {n k : Nat} {as : List D} {f : Fd} (hn : 3 ≤ n) (hf : M.fns[k]? = some f) (hl : as.length = f.np) :
    callF M n 0 k as h = gcX h (endS (evSs f.body (M.ct (callF M (n - 1))) (as.map some ++ List.replicate (f.names.length - f.np) none) h)) := by
  obtain ⟨j, rfl⟩ : ∃ j, n = j + 1 := ⟨n - 1, by omega⟩
  rw [callF, if_neg (by omega), runF, hf]
  dsimp only
  rw [if_pos hl]
  rfl
@[simp] theorem ct_call (call : Nat → Nat → List D → Hs → R D) : (M.ct call).call = call := rfl
@[simp] theorem ct_off (call : Nat → Nat → List D → Hs → R D) : (M.ct call).off = 0 := rfl
@[simp] theorem ct_con (call : Nat → Nat → List D → Hs → R D) : (M.ct call).consts = M.con.map (·.2) := rfl
@[simp] theorem ct_sub (call : Nat → Nat → List D → Hs → R D) : (M.ct call).sub = M.sub := rfl
@[simp] theorem ct_most (call : Nat → Nat → List D → Hs → R D) : (M.ct call).most = M.most := rfl
@[simp] theorem ct0_call (call : Nat → Nat → List D → Hs → R D) (o : Nat) : (M.ct0 call o).call = call := rfl
@[simp] theorem ct0_off (call : Nat → Nat → List D → Hs → R D) (o : Nat) : (M.ct0 call o).off = o := rfl
@[simp] theorem ct0_con (call : Nat → Nat → List D → Hs → R D) (o : Nat) : (M.ct0 call o).consts = M.con.map (·.2) := rfl
@[simp] theorem ct0_sub (call : Nat → Nat → List D → Hs → R D) (o : Nat) : (M.ct0 call o).sub = M.sub := rfl
theorem call_off {n k : Nat} {as : List D} : callF M (n + 2) 2 k as h = callF M n 0 k as h := by rw [callF, callF]
/-! ### what is forgotten -/
@[simp] theorem gcX_ext {d : D} {z : Hs} (hd : d.flat = true) : gcX h (.ok d (h ++ z)) = .ok d h := by simp [gcX, hd]
@[simp] theorem gcX_self {d : D} : gcX h (.ok d h) = .ok d h := by simp [gcX]
@[simp] theorem gcX_exc {x : Ex} {z : Hs} (hd : x.flat = true) : gcX h (.exc x (h ++ z)) = .exc x h := by simp [gcX, hd]
@[simp] theorem gcX_exc0 {x : Ex} : gcX h (.exc x h) = .exc x h := by simp [gcX]
@[simp] theorem gc_ext {d : D} {z : Hs} (hd : d.flat = true) : gc h (.ok d (h ++ z)) = .ok d h := by simp [gc, hd]
theorem pre_len (hl : h1.length = h.length) (hp : Hs.pre h h1 = true) : h1 = h := by
  obtain ⟨z, rfl⟩ := Hs.pre_ok hp
  have : z = [] := by simpa using hl
  simp [this]
@[simp] theorem gc_same {d : D} (hl : h1.length = h.length) : gc h (.ok d h1) = .ok d h1 := by
  unfold gc
  dsimp only
  split
  · rename_i hp
    rw [pre_len hl (Bool.and_eq_true_iff.mp hp).2]
  · rfl
theorem gc_at {d : D} {i : Nat} {a b : MO} (ha : h[i]? = some a) (hb : h1[i]? = some b) (n : a ≠ b) : gc h (.ok d h1) = .ok d h1 := by
  unfold gc
  dsimp only
  split
  · rename_i hp
    obtain ⟨z, rfl⟩ := Hs.pre_ok (Bool.and_eq_true_iff.mp hp).2
    rw [List.getElem?_append_left (List.getElem?_eq_some_iff.mp ha).1, ha] at hb
    exact absurd (Option.some.inj hb) n
  · rfl
theorem gcX_same {d : D} (hl : h1.length = h.length) : gcX h (.ok d h1) = .ok d h1 := by
  unfold gcX
  dsimp only
  split
  · rename_i hp
    rw [pre_len hl (Bool.and_eq_true_iff.mp hp).2]
  · rfl
@[simp] theorem gc_self {d : D} : gc h (.ok d h) = .ok d h := by simp [gc]
@[simp] theorem gc_exc {x : Ex} : gc h (.exc x h1) = .exc x h1 := rfl
theorem gcX_ref {i : Nat} : gcX h (.ok (.ref i) h1) = .ok (.ref i) h1 := by simp [gcX, D.flat]
theorem gc_ref {i : Nat} : gc h (.ok (.ref i) h1) = .ok (.ref i) h1 := by simp [gc, D.flat]
@[simp] theorem endS_ret {d : D} : endS (.ret d h) = .ok d h := rfl
@[simp] theorem endS_next : endS (.next env h) = .ok .none h := rfl
@[simp] theorem endS_exc {x : Ex} : endS (.exc x env h) = .exc x h := rfl
@[simp] theorem flats_map {α : Type} {f : α → D} (hf : ∀ x, (f x).flat = true) : ∀ xs : List α, D.flats (xs.map f) = true
  | [] => rfl
  | x :: xs => by simp [D.flats, hf, flats_map hf xs]
@[simp] theorem flats_nil : D.flats [] = true := rfl
@[simp] theorem flats_cons {x : D} {xs : List D} : D.flats (x :: xs) = (x.flat && D.flats xs) := rfl
@[simp] theorem flats_ints : ∀ xs : List Int, D.flats (xs.map .int) = true := flats_map fun x => by simp [D.flat]
@[simp] theorem flat_tup {xs : List D} : (D.tup xs).flat = D.flats xs := by rw [D.flat]
@[simp] theorem flat_int {i : Int} : (D.int i).flat = true := by simp [D.flat]
@[simp] theorem flat_bool {i : Bool} : (D.bool i).flat = true := by simp [D.flat]
@[simp] theorem flat_str {i : Str} : (D.str i).flat = true := by simp [D.flat]
@[simp] theorem flat_none : D.none.flat = true := by simp [D.flat]
@[simp] theorem flat_fn {i : Nat} : (D.fn i).flat = true := by simp [D.flat]
theorem flats_of {xs : List D} (hx : ∀ x ∈ xs, x.flat = true) : D.flats xs = true := by
  induction xs with
  | nil => rfl
  | cons x xs ih => simp [hx x (by simp), ih fun y hy => hx y (by simp [hy])]
@[simp] theorem exflat (k : Nat) : (Ex.mk k []).flat = true := rfl
/-! ### cells behind what stood -/
@[simp] theorem app_get {z : Hs} {i : Nat} : (h ++ z)[h.length + i]? = z[i]? := by rw [List.getElem?_append_right (by omega), Nat.add_sub_cancel_left]
@[simp] theorem app_get0 {z : Hs} : (h ++ z)[h.length]? = z[0]? := by
  have := app_get (h := h) (z := z) (i := 0)
  simpa using this
@[simp] theorem app_set {z : Hs} {i : Nat} {o : MO} : (h ++ z).set (h.length + i) o = h ++ z.set i o := by simp [List.set_append]
@[simp] theorem app_set0 {z : Hs} {o : MO} : (h ++ z).set h.length o = h ++ z.set 0 o := by simp [List.set_append]
/-! ### lists of ints -/
abbrev dI (xs : List Int) : D := .tup (xs.map .int)
@[simp] theorem boolsD_map {α : Type} {p : α → Bool} : ∀ xs : List α, boolsD (xs.map fun x => .bool (p x)) = some (xs.map p)
  | [] => rfl
  | x :: xs => by simp [boolsD, boolsD_map xs]
@[simp] theorem intsD_map {α : Type} {p : α → Int} : ∀ xs : List α, intsD (xs.map fun x => .int (p x)) = some (xs.map p)
  | [] => rfl
  | x :: xs => by simp [intsD, intsD_map xs]
@[simp] theorem intsD_map' : ∀ xs : List Int, intsD (xs.map .int) = some xs
  | [] => rfl
  | x :: xs => by simp [intsD, intsD_map' xs]
theorem enumD_map {α : Type} {f : α → D} : ∀ (xs : List α) (n : Nat), enumD n (xs.map f) = (xs.zipIdx n).map fun p => .tup [.int p.2, f p.1]
  | [], _ => rfl
  | x :: xs, n => by simp [enumD, enumD_map xs, List.zipIdx]
theorem zipD_map {α β : Type} {f : α → D} {g : β → D} : ∀ (xs : List α) (ys : List β), zipD (xs.map f) (ys.map g) = (xs.zip ys).map fun p => .tup [f p.1, g p.2]
  | [], [] => rfl
  | [], y :: ys => rfl
  | x :: xs, [] => rfl
  | x :: xs, y :: ys => by simp [zipD, zipD_map xs ys]
theorem rangeD_map : ∀ (n : Nat) (lo : Int), rangeD lo n = (List.range n).map fun k : Nat => .int (lo + k)
  | 0, _ => rfl
  | n + 1, lo => by
    rw [rangeD, rangeD_map n, List.range_succ_eq_map]
    simp [Function.comp_def, Int.add_assoc, Int.add_comm 1]
theorem rangeD0 (n : Nat) : rangeD 0 n = (List.range n).map fun k : Nat => .int (k : Int) := by simp [rangeD_map]
theorem range1_ok {j : Int} (h0 : 0 ≤ j) (hj : j ≤ 1000000) : range1 (.int j) = some ((List.range j.toNat).map fun k : Nat => .int (k : Int)) := by
  have : okR j = true := by
    unfold okR
    simp
    omega
  have z : j.toNat ≤ sizeLine := by rw [sizeLine_eq]; omega
  simp [range1, this, z, rangeD0]
theorem range2_ok {i j : Int} (h0 : -1000000 ≤ i) (h1 : i ≤ 1000000) (h2 : -1000000 ≤ j) (hj : j ≤ 1000000) : range2 (.int i) (.int j) = some ((List.range (j - i).toNat).map fun k : Nat => .int (i + k)) := by
  have z1 : okR i = true := by
    unfold okR
    simp
    omega
  have z2 : okR j = true := by
    unfold okR
    simp
    omega
  have z : (j - i).toNat ≤ sizeLine := by rw [sizeLine_eq]; omega
  simp [range2, z1, z2, z, rangeD_map]
theorem cut_from {α : Type} (xs : List α) (k : Int) (hk : 0 ≤ k) : cut xs (cutAt xs.length 0 (some k)) (cutAt xs.length xs.length none) = xs.drop k.toNat := by
  simp only [cut, cutAt, List.take_length]
  rw [if_neg (by omega)]
  by_cases hh : k.toNat ≤ xs.length
  · rw [Nat.min_eq_left hh]
  · rw [Nat.min_eq_right (by omega), List.drop_length, List.drop_eq_nil_of_le (by omega)]
theorem cut_to {α : Type} (xs : List α) (k : Int) (hk : 0 ≤ k) : cut xs (cutAt xs.length 0 none) (cutAt xs.length xs.length (some k)) = xs.take k.toNat := by
  simp only [cut, cutAt, List.drop_zero]
  rw [if_neg (by omega)]
  by_cases hh : k.toNat ≤ xs.length
  · rw [Nat.min_eq_left hh]
  · rw [Nat.min_eq_right (by omega), List.take_length, List.take_of_length_le (by omega)]
theorem idx_tup {xs : List D} {k : Nat} {d : D} (e : xs[k]? = some d) : idxD h (.tup xs) (.int (k : Int)) = some d := by
  have hk := (List.getElem?_eq_some_iff.mp e).1
  have e1 : ixAt xs.length (k : Int) = some k := by
    unfold ixAt
    rw [if_pos (by omega), if_pos (by omega)]
    simp
  simp [idxD, e1, e]
theorem idx_list {n : Nat} {xs : List D} {k : Nat} {d : D} (hn : h[n]? = some (.list xs)) (e : xs[k]? = some d) : idxD h (.ref n) (.int (k : Int)) = some d := by
  have hk := (List.getElem?_eq_some_iff.mp e).1
  have e1 : ixAt xs.length (k : Int) = some k := by
    unfold ixAt
    rw [if_pos (by omega), if_pos (by omega)]
    simp
  simp [idxD, hn, e1, e]
theorem zipIdx_flt {α : Type} (P : α → Bool) : ∀ (xs : List α) (n : Nat), ((xs.zipIdx n).filter fun p => P p.1).map (fun p => p.2) = ((List.range xs.length).filter fun k => (xs[k]?).any P).map (· + n)
  | [], n => rfl
  | x :: xs, n => by
    have ih := zipIdx_flt P xs (n + 1)
    rw [List.zipIdx_cons, List.length_cons, List.range_succ_eq_map, List.filter_cons, List.filter_cons]
    have e : ((List.map Nat.succ (List.range xs.length)).filter fun k => ((x :: xs)[k]?).any P).map (· + n) = ((List.range xs.length).filter fun k => (xs[k]?).any P).map (· + (n + 1)) := by
      rw [List.filter_map, List.map_map]
      congr 1
      funext k
      simp only [Function.comp_apply]
      omega
    by_cases hx : P x = true
    · simp [hx, ih, e, -List.map_map]
    · simp [hx, ih, e, -List.map_map]
/-! ### loops -/
theorem loopC_fm {α : Type} {f : D → Hs → R (Option D)} {ψ : α → D} {φ : α → Option D} {g : Gd} (hg : g.ok h = true) : ∀ {xs : List α}, (∀ x ∈ xs, f (ψ x) h = .ok (φ x) h) → loopC g f (xs.map ψ) h = .ok (xs.filterMap φ) h
  | [], _ => by simp [loopC, hg]
  | x :: xs, hf => by
    rw [List.map_cons, loopC, if_pos hg, hf x (by simp), noX_ok, R.bind_ok, loopC_fm hg fun y hy => hf y (by simp [hy])]
    cases hx : φ x <;> simp [List.filterMap_cons, hx]
theorem loopC_map {α : Type} {f : D → Hs → R (Option D)} {ψ : α → D} {φ : α → D} {g : Gd} {xs : List α} (hg : g.ok h = true) (hf : ∀ x ∈ xs, f (ψ x) h = .ok (some (φ x)) h) : loopC g f (xs.map ψ) h = .ok (xs.map φ) h := by
  rw [loopC_fm (φ := fun x => some (φ x)) hg hf]
  simp
theorem loopC_flt {α : Type} {f : D → Hs → R (Option D)} {ψ : α → D} {φ : α → D} {p : α → Bool} {g : Gd} {xs : List α} (hg : g.ok h = true) (hf : ∀ x ∈ xs, f (ψ x) h = .ok (if p x then some (φ x) else none) h) : loopC g f (xs.map ψ) h = .ok ((xs.filter p).map φ) h := by
  rw [loopC_fm (φ := fun x => if p x then some (φ x) else none) hg hf]
  congr 1
  induction xs with
  | nil => rfl
  | cons x xs ih =>
    have := ih fun y hy => hf y (by simp [hy])
    by_cases hp : p x = true
    · simp [List.filterMap_cons, List.filter_cons, hp, this]
    · simp [List.filterMap_cons, List.filter_cons, hp, this]
theorem loopC_mapI {f : D → Hs → R (Option D)} {φ : D → D} {g : Gd} {xs : List D} (hg : g.ok h = true) (hf : ∀ x ∈ xs, f x h = .ok (some (φ x)) h) : loopC g f xs h = .ok (xs.map φ) h := by
  have := loopC_map (ψ := id) (φ := φ) hg hf
  simpa using this
@[simp] theorem gd_nil : Gd.ok [] h = true := rfl
/-- a loop whose turns do something -/
theorem loopC_inv {f : D → Hs → R (Option D)} {P : Hs → Prop} {Q : D → Prop} : ∀ {xs : List D} {h : Hs}, (∀ x ∈ xs, ∀ h, P h → ∃ y h', f x h = .ok (some y) h' ∧ Q y ∧ P h') → P h → ∃ ys h', loopC [] f xs h = .ok ys h' ∧ ys.length = xs.length ∧ (∀ y ∈ ys, Q y) ∧ P h'
  | [], h, _, p => ⟨[], h, by simp [loopC, Gd.ok], rfl, by simp, p⟩
  | x :: xs, h, hf, p => by
    obtain ⟨y, h1, e1, q1, p1⟩ := hf x (by simp) h p
    obtain ⟨ys, h2, e2, l2, q2, p2⟩ := loopC_inv (xs := xs) (fun z hz => hf z (by simp [hz])) p1
    refine ⟨y :: ys, h2, ?_, by simp [l2], fun z hz => ?_, p2⟩
    · rw [loopC, if_pos (by simp [Gd.ok]), e1, noX_ok, R.bind_ok, e2, R.bind_ok]
    · rcases List.mem_cons.mp hz with rfl | hz
      · exact q1
      · exact q2 z hz
/-- .. and may leave items out -/
theorem loopC_invF {f : D → Hs → R (Option D)} {P : Hs → Prop} : ∀ {xs : List D} {h : Hs}, (∀ x ∈ xs, ∀ h, P h → ∃ (b : Bool) (h' : Hs), f x h = .ok (if b then some x else none) h' ∧ P h') → P h → ∃ ys h', loopC [] f xs h = .ok ys h' ∧ ys.Sublist xs ∧ P h'
  | [], h, _, p => ⟨[], h, by simp [loopC, Gd.ok], .slnil, p⟩
  | x :: xs, h, hf, p => by
    obtain ⟨b, h1, e1, p1⟩ := hf x (by simp) h p
    obtain ⟨ys, h2, e2, l2, p2⟩ := loopC_invF (xs := xs) (fun z hz => hf z (by simp [hz])) p1
    refine ⟨if b then x :: ys else ys, h2, ?_, ?_, p2⟩
    · rw [loopC, if_pos (by simp [Gd.ok]), e1, noX_ok, R.bind_ok, e2, R.bind_ok]
      cases b <;> rfl
    · cases b
      · exact l2.cons _
      · exact l2.cons₂ _
theorem loopC_invF_of {f : D → Hs → R (Option D)} {P : Hs → Prop} {xs : List D} {L : R (List D)} (e : loopC [] f xs h = L) (p : P h) (hf : ∀ x ∈ xs, ∀ h, P h → ∃ (b : Bool) (h' : Hs), f x h = .ok (if b then some x else none) h' ∧ P h') : ∃ ys h', L = .ok ys h' ∧ ys.Sublist xs ∧ P h' := e ▸ loopC_invF hf p
theorem loopC_inv_of {f : D → Hs → R (Option D)} {P : Hs → Prop} {Q : D → Prop} {xs : List D} {L : R (List D)} (e : loopC [] f xs h = L) (p : P h) (hf : ∀ x ∈ xs, ∀ h, P h → ∃ y h', f x h = .ok (some y) h' ∧ Q y ∧ P h') : ∃ ys h', L = .ok ys h' ∧ ys.length = xs.length ∧ (∀ y ∈ ys, Q y) ∧ P h' := e ▸ loopC_inv hf p
theorem loopF_inv {f : D → Env → Hs → RS} {P : Env → Hs → Prop} : ∀ {xs : List D} {env : Env} {h : Hs}, (∀ x ∈ xs, ∀ env h, P env h → ∃ env' h', f x env h = .next env' h' ∧ P env' h') → P env h → ∃ env' h', loopF [] f xs env h = .next env' h' ∧ P env' h'
  | [], env, h, _, p => ⟨env, h, by simp [loopF, Gd.ok], p⟩
  | x :: xs, env, h, hf, p => by
    obtain ⟨e1, h1, z1, p1⟩ := hf x (by simp) env h p
    obtain ⟨e2, h2, z2, p2⟩ := loopF_inv (xs := xs) (fun y hy => hf y (by simp [hy])) p1
    exact ⟨e2, h2, by rw [loopF, if_pos (by simp [Gd.ok]), z1]; exact z2, p2⟩
/-- a loop that folds -/
theorem loopF_fold {α β : Type} {f : D → Env → Hs → RS} {ψ : α → D} {s : β → Env} {hp : β → Hs} {step : β → α → β} {g : Gd} : ∀ {xs : List α} {b : β}, (∀ b, g.ok (hp b) = true) → (∀ x ∈ xs, ∀ b, f (ψ x) (s b) (hp b) = .next (s (step b x)) (hp (step b x))) → loopF g f (xs.map ψ) (s b) (hp b) = .next (s (xs.foldl step b)) (hp (xs.foldl step b))
  | [], b, hg, _ => by simp [loopF, hg]
  | x :: xs, b, hg, hf => by
    rw [List.map_cons, loopF, if_pos (hg b), hf x (by simp)]
    exact loopF_fold hg fun y hy => hf y (by simp [hy])
theorem loopF_sim {α σ : Type} {f : D → Env → Hs → RS} {ψ : α → D} {S : σ → Env → Hs → Prop} {step : σ → α → σ} {g : Gd} (hg : ∀ b env h, S b env h → g.ok h = true) : ∀ {xs : List α} {b : σ} {env : Env} {h : Hs}, (∀ x ∈ xs, ∀ b env h, S b env h → ∃ env' h', f (ψ x) env h = .next env' h' ∧ S (step b x) env' h') → S b env h →
    ∃ env' h', loopF g f (xs.map ψ) env h = .next env' h' ∧ S (xs.foldl step b) env' h'
  | [], b, env, h, _, p => ⟨env, h, by simp [loopF, hg b env h p], p⟩
  | x :: xs, b, env, h, hf, p => by
    obtain ⟨e1, h1, z1, p1⟩ := hf x (by simp) b env h p
    obtain ⟨e2, h2, z2, p2⟩ := loopF_sim hg (xs := xs) (fun y hy => hf y (by simp [hy])) p1
    exact ⟨e2, h2, by rw [List.map_cons, loopF, if_pos (hg b env h p), z1]; exact z2, p2⟩
/-- statement by statement -/
theorem ss_step {s : S} {ss : Ss} {env' : Env} {h' : Hs} {r : RS} (e : evS s c env h = .next env' h') (k : evSs ss c env' h' = r) : evSs (.cons s ss) c env h = r := by
  rw [evSs, e, RS.next_next, k]
theorem ss_stepE {s : S} {ss : Ss} {env' : Env} {h' : Hs} {P : RS → Prop} (e : evS s c env h = .next env' h') (k : P (evSs ss c env' h')) : P (evSs (.cons s ss) c env h) := by
  rw [evSs, e, RS.next_next]
  exact k
/-- a def that is one return -/
theorem callF_ret {n k : Nat} {as : List D} {f : Fd} {e : E} {ss : Ss} {d : D} (hn : 3 ≤ n) (hf : M.fns[k]? = some f) (hl : as.length = f.np) (hb : f.body = .cons (.ret e) ss)
    (he : evE e (M.ct (callF M (n - 1))) (as.map some ++ List.replicate (f.names.length - f.np) none) h = .ok d h) : callF M n 0 k as h = .ok d h := by
  rw [callF_go hn hf hl, hb, evSs, evS, he]
  simp
theorem evE_bop {t : Bool} {es : Es} : evE (.bop t es) c env h = evB t es c env h := by rw [evE]
theorem evB_and {a d : E} {es : Es} {p q : Bool} (h1 : evE a c env h = .ok (.bool p) h) (h2 : p = true → evB true (.cons d es) c env h = .ok (.bool q) h) : evB true (.cons a (.cons d es)) c env h = .ok (.bool (p && q)) h := by
  rw [evB, h1]
  cases p
  · simp [truthD]
  · simp [truthD, h2 rfl]
theorem evB_or {a d : E} {es : Es} {p q : Bool} (h1 : evE a c env h = .ok (.bool p) h) (h2 : p = false → evB false (.cons d es) c env h = .ok (.bool q) h) : evB false (.cons a (.cons d es)) c env h = .ok (.bool (p || q)) h := by
  rw [evB, h1]
  cases p
  · simp [truthD, h2 rfl]
  · simp [truthD]
theorem evB_one {t : Bool} {a : E} : evB t (.cons a .nil) c env h = evE a c env h := by rw [evB]
/-! ### what a row of statements comes to -/
@[simp] theorem nil_next {f : MI.Env → Hs → RS} : (evSs .nil c env h).next' f = f env h := by rw [evSs, RS.next_next]
/-- d is returned, what stood is untouched -/
def Rets (h : Hs) (d : D) (r : RS) : Prop := ∃ z, r = .ret d (h ++ z)
def Rais (h : Hs) (x : Ex) (r : RS) : Prop := ∃ e z, r = .exc x e (h ++ z)
def Nexts (Q : MI.Env → Hs → Prop) (r : RS) : Prop := ∃ e h, r = .next e h ∧ Q e h
/-- a new list is returned -/
def RetL (h : Hs) (xs : List D) (r : RS) : Prop := ∃ z i, r = .ret (.ref (h.length + i)) (h ++ z) ∧ z[i]? = some (.list xs)
/-- True is returned -/
def Rett (r : RS) : Prop := ∃ h', r = .ret (.bool true) h'
/-- a turn of a loop -/
def Turns (Q : MI.Env → Hs → Prop) (r : RS) : Prop := ∃ e h, (r = .next e h ∨ r = .cont e h) ∧ Q e h
theorem Turns.nx {Q : MI.Env → Hs → Prop} (q : Q env h) : Turns Q (.next env h) := ⟨_, _, .inl rfl, q⟩
theorem Turns.ct {Q : MI.Env → Hs → Prop} (q : Q env h) : Turns Q (.cont env h) := ⟨_, _, .inr rfl, q⟩
theorem Turns.nxE {Q : MI.Env → Hs → Prop} {r : RS} (e : r = .next env h) (q : Q env h) : Turns Q r := ⟨_, _, .inl e, q⟩
theorem Turns.ctE {Q : MI.Env → Hs → Prop} {r : RS} (e : r = .cont env h) (q : Q env h) : Turns Q r := ⟨_, _, .inr e, q⟩
theorem Nexts.nx {Q : MI.Env → Hs → Prop} (q : Q env h) : Nexts Q (.next env h) := ⟨_, _, rfl, q⟩
theorem callF_rets {n k : Nat} {as : List D} {f : Fd} {d : D} (hn : 3 ≤ n) (hf : M.fns[k]? = some f) (hl : as.length = f.np) (hd : d.flat = true)
    (he : Rets h d (evSs f.body (M.ct (callF M (n - 1))) (as.map some ++ List.replicate (f.names.length - f.np) none) h)) : callF M n 0 k as h = .ok d h := by
  obtain ⟨z, e⟩ := he
  rw [callF_go hn hf hl, e, endS_ret, gcX_ext hd]
theorem callF_rais {n k : Nat} {as : List D} {f : Fd} {x : Ex} (hn : 3 ≤ n) (hf : M.fns[k]? = some f) (hl : as.length = f.np) (hd : x.flat = true)
    (he : Rais h x (evSs f.body (M.ct (callF M (n - 1))) (as.map some ++ List.replicate (f.names.length - f.np) none) h)) : callF M n 0 k as h = .exc x h := by
  obtain ⟨e, z, he⟩ := he
  rw [callF_go hn hf hl, he, endS_exc, gcX_exc hd]
theorem rett {e : E} {ss : Ss} (he : evE e c env h = .ok (.bool true) h1) : Rett (evSs (.cons (.ret e) ss) c env h) := by
  rw [evSs, evS, he]
  exact ⟨h1, rfl⟩
theorem ss_ex {P : RS → Prop} {e : E} {ss : Ss} {d : D} (he : gc h (evE e c env h) = .ok d h1) (k : P (evSs ss c env h1)) : P (evSs (.cons (.expr e) ss) c env h) := by
  rw [evSs, evS, he]
  exact k
/-- a test that is false, nothing behind it -/
theorem ss_if0 {P : RS → Prop} {t : E} {a ss : Ss} (ht : tst h (evE t c env h) = .ok false h1) (k : P (evSs ss c env h1)) : P (evSs (.cons (.ite t a .nil) ss) c env h) := by
  rw [evSs, evS, ht]
  simp only [R.then_ok, Bool.false_eq_true, if_false, nil_next]
  exact k
theorem callF_retL {n k : Nat} {as : List D} {f : Fd} {xs : List D} (hn : 3 ≤ n) (hf : M.fns[k]? = some f) (hl : as.length = f.np)
    (he : RetL h xs (evSs f.body (M.ct (callF M (n - 1))) (as.map some ++ List.replicate (f.names.length - f.np) none) h)) : ∃ z i, callF M n 0 k as h = .ok (.ref (h.length + i)) (h ++ z) ∧ z[i]? = some (.list xs) := by
  obtain ⟨z, i, e, q⟩ := he
  exact ⟨z, i, by rw [callF_go hn hf hl, e, endS_ret, gcX_ref], q⟩
theorem retL {e : E} {ss : Ss} {xs : List D} {z : Hs} {i : Nat} (he : evE e c env h1 = .ok (.ref (h.length + i)) (h ++ z)) (q : z[i]? = some (.list xs)) : RetL h xs (evSs (.cons (.ret e) ss) c env h1) := by
  rw [evSs, evS, he]
  exact ⟨z, i, rfl, q⟩
theorem ss_ret {P : RS → Prop} {e : E} {ss : Ss} {d : D} (he : evE e c env h = .ok d h1) (k : P (.ret d h1)) : P (evSs (.cons (.ret e) ss) c env h) := by
  rw [evSs, evS, he]
  exact k
theorem rets {z : Hs} {e : E} {ss : Ss} {d : D} (he : evE e c env (h ++ z) = .ok d (h ++ z)) : Rets h d (evSs (.cons (.ret e) ss) c env (h ++ z)) := ss_ret he ⟨z, rfl⟩
theorem rets0 {e : E} {ss : Ss} {d : D} (he : evE e c env h = .ok d h) : Rets h d (evSs (.cons (.ret e) ss) c env h) := ss_ret he ⟨[], by simp⟩
theorem ss_as {P : RS → Prop} {t : Tg} {e : E} {ss : Ss} {d : D} {env' : MI.Env} (he : gc h (evE e c env h) = .ok d h1) (hb : t.bind h1 d env = some env') (k : P (evSs ss c env' h1)) : P (evSs (.cons (.assign t e) ss) c env h) := by
  rw [evSs, evS, he]
  simp only [R.then_ok, hb, RS.next_next]
  exact k
theorem ss_if {P : RS → Prop} {t : E} {a b ss : Ss} {p : Bool} (ht : tst h (evE t c env h) = .ok p h) (k1 : p = true → P ((evSs a c env h).next' fun env h => evSs ss c env h)) (k2 : p = false → P ((evSs b c env h).next' fun env h => evSs ss c env h)) : P (evSs (.cons (.ite t a b) ss) c env h) := by
  rw [evSs, evS, ht]
  cases p
  · exact k2 rfl
  · exact k1 rfl
theorem loopF_turn {P : RS → Prop} {α σ : Type} {f : D → MI.Env → Hs → RS} {t : Tg} {body : Ss} {ψ : α → D} {S : σ → MI.Env → Hs → Prop} {step : σ → α → σ} {g : Gd} (hf : ∀ x env h env1, t.bind h x env = some env1 → f x env h = evSs body c env1 h) (hg : ∀ b env h, S b env h → g.ok h = true) : ∀ {xs : List α} {b : σ} {env : MI.Env} {h : Hs},
    (∀ x ∈ xs, ∀ b env h, S b env h → ∃ env1, t.bind h (ψ x) env = some env1 ∧ Turns (S (step b x)) (evSs body c env1 h)) → S b env h → (∀ env' h', S (xs.foldl step b) env' h' → P (.next env' h')) → P (loopF g f (xs.map ψ) env h)
  | [], b, env, h, _, s, k => by
    rw [List.map_nil, loopF, if_pos (hg b env h s)]
    exact k env h s
  | x :: xs, b, env, h, hb, s, k => by
    obtain ⟨env1, e1, env2, h2, e2, s2⟩ := hb x (by simp) b env h s
    rw [List.map_cons, loopF, if_pos (hg b env h s), hf _ _ _ _ e1]
    rcases e2 with e2 | e2 <;> (rw [e2]; exact loopF_turn hf hg (xs := xs) (fun y hy => hb y (by simp [hy])) s2 k)
theorem ss_for {P : RS → Prop} {α σ : Type} {t : Tg} {it : It} {body ss : Ss} {ψ : α → D} {xs : List α} {S : σ → MI.Env → Hs → Prop} {step : σ → α → σ} {b : σ} {g : Gd} (hi : evI it c env h = .ok (xs.map ψ, g) h) (hg : ∀ b env h, S b env h → g.ok h = true)
    (hb : ∀ x ∈ xs, ∀ b env h, S b env h → ∃ env1, t.bind h (ψ x) env = some env1 ∧ Turns (S (step b x)) (evSs body c env1 h)) (h0 : S b env h) (k : ∀ env' h', S (xs.foldl step b) env' h' → P (evSs ss c env' h')) : P (evSs (.cons (.for_ t it body) ss) c env h) := by
  rw [evSs, evS, hi, R.then_ok]
  refine loopF_turn (P := fun r => P (r.next' fun env h => evSs ss c env h)) (t := t) (body := body) (c := c) (ψ := ψ) (S := S) (step := step) (fun x env h env1 e => ?_) hg hb h0 (fun env' h' s => k env' h' s)
  simp only [e]
/-- .. with the turn's number -/
theorem loopF_turnI {P : RS → Prop} {α σ : Type} {f : D → MI.Env → Hs → RS} {t : Tg} {body : Ss} {ψ : α → D} {S : Nat → σ → MI.Env → Hs → Prop} {step : σ → α → σ} {g : Gd} (hf : ∀ x env h env1, t.bind h x env = some env1 → f x env h = evSs body c env1 h) (hg : ∀ i b env h, S i b env h → g.ok h = true) : ∀ {xs : List α} {j : Nat} {b : σ} {env : MI.Env} {h : Hs},
    (∀ i x, xs[i]? = some x → ∀ b env h, S (j + i) b env h → ∃ env1, t.bind h (ψ x) env = some env1 ∧ Turns (S (j + i + 1) (step b x)) (evSs body c env1 h)) → S j b env h → (∀ env' h', S (j + xs.length) (xs.foldl step b) env' h' → P (.next env' h')) → P (loopF g f (xs.map ψ) env h)
  | [], j, b, env, h, _, s, k => by
    rw [List.map_nil, loopF, if_pos (hg j b env h s)]
    exact k env h s
  | x :: xs, j, b, env, h, hb, s, k => by
    obtain ⟨env1, e1, env2, h2, e2, s2⟩ := hb 0 x (by simp) b env h s
    rw [List.map_cons, loopF, if_pos (hg j b env h s), hf _ _ _ _ e1]
    have hb' : ∀ i y, xs[i]? = some y → ∀ b env h, S (j + 1 + i) b env h → ∃ env1, t.bind h (ψ y) env = some env1 ∧ Turns (S (j + 1 + i + 1) (step b y)) (evSs body c env1 h) := fun i y hy b env h s => by
      have e : j + 1 + i = j + (i + 1) := by omega
      rw [e] at s ⊢
      exact hb (i + 1) y (by simpa using hy) b env h s
    have k' : ∀ env' h', S (j + 1 + xs.length) (xs.foldl step (step b x)) env' h' → P (.next env' h') := fun env' h' s => k env' h' (by rw [List.length_cons, show j + (xs.length + 1) = j + 1 + xs.length by omega]; exact s)
    rcases e2 with e2 | e2 <;> (rw [e2]; exact loopF_turnI hf hg (xs := xs) (j := j + 1) hb' s2 k')
theorem ss_forI {P : RS → Prop} {α σ : Type} {t : Tg} {it : It} {body ss : Ss} {ψ : α → D} {xs : List α} {S : Nat → σ → MI.Env → Hs → Prop} {step : σ → α → σ} {b : σ} {g : Gd} (hi : evI it c env h = .ok (xs.map ψ, g) h) (hg : ∀ i b env h, S i b env h → g.ok h = true)
    (hb : ∀ i x, xs[i]? = some x → ∀ b env h, S i b env h → ∃ env1, t.bind h (ψ x) env = some env1 ∧ Turns (S (i + 1) (step b x)) (evSs body c env1 h)) (h0 : S 0 b env h) (k : ∀ env' h', S xs.length (xs.foldl step b) env' h' → P (evSs ss c env' h')) : P (evSs (.cons (.for_ t it body) ss) c env h) := by
  rw [evSs, evS, hi, R.then_ok]
  refine loopF_turnI (P := fun r => P (r.next' fun env h => evSs ss c env h)) (t := t) (body := body) (c := c) (ψ := ψ) (S := S) (step := step) (j := 0) (fun x env h env1 e => ?_) hg (fun i x hx b env h s => ?_) h0 (fun env' h' s => k env' h' (by simpa using s))
  · simp only [e]
  · rw [Nat.zero_add] at s ⊢
    exact hb i x hx b env h s
theorem foldl_pow : ∀ (xs : List Nat) (a : Int), xs.foldl (fun a _ => a * 2) a = a * 2 ^ xs.length
  | [], a => by simp
  | x :: xs, a => by rw [List.foldl_cons, foldl_pow xs, List.length_cons, Int.pow_succ']; rw [Int.mul_assoc]
/-- binary figures, the last first -/
def digI : Nat → Int → List Int
  | 0, _ => []
  | m + 1, n => n % 2 :: digI m (n / 2)
/-- .. as a row -/
def madeI (m : Nat) (n : Int) : List Int := (digI m n).reverse
theorem foldl_dig : ∀ (xs : List Nat) (l : List Int) (n : Int), (xs.foldl (fun (b : List Int × Int) _ => (b.1 ++ [b.2 % 2], b.2 / 2)) (l, n)).1 = l ++ digI xs.length n
  | [], l, n => by simp [digI]
  | x :: xs, l, n => by rw [List.foldl_cons, foldl_dig xs, List.length_cons, digI]; simp
theorem pow_cast (m : Nat) : (2 : Int) ^ m = ((2 ^ m : Nat) : Int) := by simp
theorem pow_le20 {m : Nat} (hm : m ≤ 19) : (0 : Int) ≤ 2 ^ m ∧ (2 : Int) ^ m ≤ 1000000 ∧ ((2 : Int) ^ m).toNat = 2 ^ m := by
  have t : (2 : Nat) ^ m ≤ 2 ^ 19 := Nat.pow_le_pow_right (by omega) hm
  rw [pow_cast]
  have e : (2 : Nat) ^ 19 = 524288 := by decide
  exact ⟨Int.natCast_nonneg _, Int.ofNat_le.mpr (Nat.le_trans t (by rw [e]; decide)), Int.toNat_natCast _⟩
/-! ### operations on ints -/
section
variable {i j : Int}
@[simp] theorem run_add : Bop.add.run (.int i) (.int j) h = .ok (.int (i + j)) h := rfl
@[simp] theorem run_sub : Bop.sub.run (.int i) (.int j) h = .ok (.int (i - j)) h := rfl
theorem run_mul (hs : (small64 i || small64 j) = true) : Bop.mul.run (.int i) (.int j) h = .ok (.int (i * j)) h := by simp only [Bop.run, hs, if_true]
theorem run_mulr (hj : small64 j = true) : Bop.mul.run (.int i) (.int j) h = .ok (.int (i * j)) h := run_mul (by simp [hj])
theorem run_mull (hj : small64 i = true) : Bop.mul.run (.int i) (.int j) h = .ok (.int (i * j)) h := run_mul (by simp [hj])
@[simp] theorem run_mul2 : Bop.mul.run (.int 2) (.int j) h = .ok (.int (2 * j)) h := by simp [Bop.run, small64]
theorem run_mod (hj : 0 < j) : Bop.mod.run (.int i) (.int j) h = .ok (.int (i % j)) h := by simp [Bop.run, hj]
theorem run_fdiv (hj : 0 < j) (h2 : j < 1073741824) : Bop.fdiv.run (.int i) (.int j) h = .ok (.int (i / j)) h := by
  have : j.natAbs < 1073741824 := by omega
  simp [Bop.run, hj, this]
@[simp] theorem run_mod2 : Bop.mod.run (.int i) (.int 2) h = .ok (.int (i % 2)) h := by simp [Bop.run]
@[simp] theorem run_fdiv2 : Bop.fdiv.run (.int i) (.int 2) h = .ok (.int (i / 2)) h := by simp [Bop.run]
@[simp] theorem irun_add : Bop.add.irun (.int i) (.int j) = some (.int (i + j)) := rfl
@[simp] theorem irun_sub : Bop.sub.irun (.int i) (.int j) = some (.int (i - j)) := rfl
@[simp] theorem irun_mul2 : Bop.mul.irun (.int i) (.int 2) = some (.int (i * 2)) := by simp [Bop.irun, small64]
@[simp] theorem run_tup {xs ys : List D} (hl : xs.length + ys.length ≤ sizeLine) : Bop.add.run (.tup xs) (.tup ys) h = .ok (.tup (xs ++ ys)) h := by simp [Bop.run, hl]
theorem pyD_int {n : Nat} : pyD h (n + 1) (.int i) = some (.int i) := rfl
@[simp] theorem cmp_eq : Cop.eq.run (.int i) (.int j) h = some (decide (i = j)) := by
  have e : (i == j) = decide (i = j) := by
    by_cases z : i = j <;> simp [z]
  simp [Cop.run, eqvD, deep, pyD, PyData.eqv, e]
@[simp] theorem cmp_ne : Cop.ne.run (.int i) (.int j) h = some (decide (i ≠ j)) := by
  have e : (i == j) = decide (i = j) := by
    by_cases z : i = j <;> simp [z]
  simp [Cop.run, eqvD, deep, pyD, PyData.eqv, e]
@[simp] theorem cmp_lt : Cop.lt.run (.int i) (.int j) h = some (decide (i < j)) := rfl
@[simp] theorem cmp_le : Cop.le.run (.int i) (.int j) h = some (decide (i ≤ j)) := rfl
@[simp] theorem cmp_gt : Cop.gt.run (.int i) (.int j) h = some (decide (j < i)) := rfl
@[simp] theorem cmp_ge : Cop.ge.run (.int i) (.int j) h = some (decide (j ≤ i)) := rfl
/-- is k among them? -/
@[simp] theorem amongD_int {h : Hs} {k : Int} {xs : List Int} : amongD h (.int k) (xs.map .int) = some (decide (k ∈ xs)) := by
  have e : ∀ xs : List Int, mapO (pyD h deep) (xs.map .int) = some (xs.map .int) := fun xs => by
    induction xs with
    | nil => rfl
    | cons x xs ih => simp [mapO, ih]; simp [deep, pyD]
  have e2 : ∀ xs : List Int, ((xs.map PyData.int).any fun z => PyData.eqv z (.int k)) = decide (k ∈ xs) := fun xs => by
    induction xs with
    | nil => rfl
    | cons x xs ih =>
      simp only [List.map_cons, List.any_cons, ih, PyData.eqv]
      by_cases hx : x = k
      · simp [hx]
      · have hx' : ¬ k = x := fun z => hx z.symm
        simp [hx, hx']
  rw [amongD, e]
  simp only [e2, pyD, deep]
@[simp] theorem cmp_inT {x : D} {ys : List D} : Cop.inn.run x (.tup ys) h = amongD h x ys := rfl
@[simp] theorem cmp_ninT {x : D} {ys : List D} : Cop.nin.run x (.tup ys) h = (amongD h x ys).map (!·) := rfl
@[simp] theorem f1_bool {b : Bool} : F1.int.run (.bool b) h = some (.int (if b then 1 else 0)) := rfl
@[simp] theorem f1_int : F1.int.run (.int i) h = some (.int i) := rfl
@[simp] theorem f1_abs : F1.abs.run (.int i) h = some (.int (if i < 0 then -i else i)) := rfl
@[simp] theorem truth_bool {b : Bool} : truthD h (.bool b) = some b := rfl
@[simp] theorem pre_app2 {x y : Hs} : Hs.pre (h ++ x) (h ++ y) = Hs.pre x y := by
  induction h with
  | nil => rfl
  | cons a h ih => simp [Hs.pre, ih]
@[simp] theorem pre_nil {x : Hs} : Hs.pre [] x = true := rfl
@[simp] theorem pre_cons {a : MO} {x y : Hs} : Hs.pre (a :: x) (a :: y) = Hs.pre x y := by simp [Hs.pre]
/-- a test whose state goes on from what stood -/
theorem tst_pre {b : Bool} (hp : Hs.pre h h1 = true) : tst h (.ok (.bool b) h1) = .ok b h := by simp [tst, gc, hp]
theorem gc_pre {d : D} (hd : d.flat = true) (hp : Hs.pre h h1 = true) : gc h (.ok d h1) = .ok d h := by simp [gc, hp, hd]
theorem tst_same {b : Bool} (hl : h1.length = h.length) : tst h (.ok (.bool b) h1) = .ok b h1 := by simp [tst, gc_same hl]
@[simp] theorem tst_bool {b : Bool} : tst h (.ok (.bool b) h) = .ok b h := by simp [tst]
end
end
section
variable {M : Pg} {env : MI.Env} {h h1 : Hs} {call : Nat → Nat → List D → Hs → R D} {m : Nat}
theorem refused_of {l : Nat} {e : E} {x : Ex} (he : M.lams[l]? = some e) (ev : evE e (M.ct0 call 2) env h = .exc x h1) (su : M.sub x.cls m = true) (pr : Hs.pre h h1 = true) : refused (M.ct call) m env h (.clo l) = true := by
  have : (M.ct call).lamb l env h = .exc x h1 := by
    show (match M.lams[l]? with
      | some e => evE e (M.ct0 call 2) env h
      | none => .stuck) = _
    rw [he]
    exact ev
  simp [refused, this, su, pr]
/-- a lambda is listed -/
theorem app_clo {c : Ct} {i l a : Nat} {xs : List D} (he : env[i]? = some (some (.ref a))) (ha : h[a]? = some (.list xs)) (hx : xs.length ≤ 1000) : evS (.expr (.meth .append (.var i) (.cons (.lam l) .nil))) c env h = .next env (h.set a (.list (xs ++ [.clo l]))) := by
  have sz : xs.length < sizeLine := by rw [sizeLine_eq]; omega
  simp [evS, evE, evEs, he, Mt.recv, ha, Mt.run, sz]
theorem acts_run {c : Ct} {i a : Nat} {ds : List D} (he : env[i]? = some (some (.ref a))) (ha : h[a]? = some (.list ds)) (hr : ∀ d ∈ ds, refused c m env h d = true) : evL (.acts i m) c env h = .ok [] h := by
  rw [evL, he]
  dsimp only
  rw [ha]
  dsimp only
  rw [if_pos (List.all_eq_true.mpr hr)]
end
end MI
end
section
/-! NB: data that can be shown. -/
namespace MI
open PySem
mutual
def toP : D → PyData
  | .none => .none
  | .bool b => .bool b
  | .int i => .int i
  | .str s => .str s
  | .tup xs => .tuple (toPs xs)
  | _ => .none
def toPs : List D → List PyData
  | [] => []
  | x :: xs => toP x :: toPs xs
end
def strFine (s : Str) : Bool := PyData.strOk s && PyData.strOk (reprText s)
mutual
def fineD : D → Bool
  | .none => true
  | .bool _ => true
  | .int i => decide (i.natAbs < 10 ^ 12)
  | .str s => strFine s
  | .tup xs => fineDs xs
  | _ => false
def fineDs : List D → Bool
  | [] => true
  | x :: xs => fineD x && fineDs xs
end
mutual
def dpD : D → Nat
  | .tup xs => dpDs xs + 1
  | _ => 1
def dpDs : List D → Nat
  | [] => 0
  | x :: xs => max (dpD x) (dpDs xs)
end
mutual
theorem pyD_fine {h : Hs} : ∀ {d : D} {n : Nat}, fineD d = true → dpD d ≤ n → pyD h n d = some (toP d)
  | .none, 0, _, z => by simp [dpD] at z
  | .none, n + 1, _, _ => by simp [pyD, toP]
  | .bool b, 0, _, z => by simp [dpD] at z
  | .bool b, n + 1, _, _ => by simp [pyD, toP]
  | .int b, 0, _, z => by simp [dpD] at z
  | .int b, n + 1, _, _ => by simp [pyD, toP]
  | .str b, 0, _, z => by simp [dpD] at z
  | .str b, n + 1, h, _ => by
    simp only [fineD, strFine, Bool.and_eq_true] at h
    simp [pyD, toP, h.1]
  | .tup xs, 0, _, z => by simp [dpD] at z
  | .tup xs, n + 1, h, z => by
    simp only [fineD] at h
    simp only [dpD] at z
    rw [pyD, pyDs_fine h (by omega)]
    simp [toP]
  | .ref _, _, h, _ => by simp [fineD] at h
  | .fn _, _, h, _ => by simp [fineD] at h
  | .clo _, _, h, _ => by simp [fineD] at h
theorem pyDs_fine {h : Hs} : ∀ {ds : List D} {n : Nat}, fineDs ds = true → dpDs ds ≤ n → mapO (pyD h n) ds = some (toPs ds)
  | [], n, _, _ => by simp [mapO, toPs]
  | x :: xs, n, h, z => by
    simp only [fineDs, Bool.and_eq_true] at h
    simp only [dpDs] at z
    rw [mapO, pyD_fine h.1 (by omega), pyDs_fine h.2 (by omega)]
    simp [toPs]
end
theorem strOk_app {a b : Str} : PyData.strOk (a ++ b) = (PyData.strOk a && PyData.strOk b) := by
  show ((a.cps ++ b.cps).all (· < 0x110000)) = _
  rw [Array.all_append]
  rfl
theorem strOk_lit (s : String) : PyData.strOk (s : Str) = true := by
  show (PyData.strOk (Str.ofString s)) = true
  rw [Str.ofString_eq_toList]
  simp only [PyData.strOk, List.all_toArray, List.all_eq_true, List.mem_map]
  rintro c ⟨d, _, rfl⟩
  have := d.valid
  have h2 : d.toNat < 0x110000 := by
    show d.val.toNat < _
    rcases this with h | h
    · exact Nat.lt_trans h (by decide)
    · exact h.2
  exact decide_eq_true h2
theorem strOk_from : ∀ (ts : List Str) (k : Nat) (acc : Str), PyData.strOk acc = true → (∀ t ∈ ts, PyData.strOk t = true) → PyData.strOk (textFrom k acc ts) = true
  | [], _, _, h, _ => h
  | t :: ts, k, acc, h, ht => by
    have e : textFrom k acc (t :: ts) = textFrom (k + 1) (acc ++ ((if k > 0 then ", " else "" : String) : Str) ++ t) ts := rfl
    rw [e]
    refine strOk_from ts (k + 1) _ ?_ fun u hu => ht u (by simp [hu])
    rw [strOk_app, strOk_app, h, strOk_lit, ht t (by simp)]
    rfl
/-- what can be shown -/
structure PFine (p : PyData) : Prop where
  show_ : p.showable = true
  short : p.leavesShort 13 = true
  ok : PyData.strOk p.shown = true
  plain : p.plain = true
theorem shownAll_ok {xs : List PyData} (h : ∀ x ∈ xs, PFine x) : ∀ t ∈ PyData.shownAll xs, PyData.strOk t = true := by
  rw [PyProof.Rows.shownAll_eq_map]
  intro t ht
  obtain ⟨x, hx, rfl⟩ := List.mem_map.mp ht
  exact (h x hx).ok
theorem all_show {xs : List PyData} (h : ∀ x ∈ xs, PFine x) : PyData.showableAll xs = true ∧ PyData.leavesShortAll 13 xs = true ∧ PyData.plainAll xs = true := by
  induction xs with
  | nil => exact ⟨rfl, rfl, rfl⟩
  | cons x xs ih =>
    obtain ⟨a, b, c⟩ := ih fun y hy => h y (by simp [hy])
    have q := h x (by simp)
    simp [PyData.showableAll, PyData.leavesShortAll, PyData.plainAll, a, b, c, q.show_, q.short, q.plain]
theorem pfine_list {xs : List PyData} (h : ∀ x ∈ xs, PFine x) : PFine (.list xs) := by
  obtain ⟨a, b, c⟩ := all_show h
  refine ⟨by simpa [PyData.showable] using a, by simpa [PyData.leavesShort] using b, ?_, by simpa [PyData.plain] using c⟩
  rw [show (PyData.list xs).shown = listText (PyData.shownAll xs) by simp only [PyData.shown]]
  show PyData.strOk (textFrom 0 "[" (PyData.shownAll xs) ++ ("]" : Str)) = true
  rw [strOk_app, strOk_from _ _ _ (strOk_lit _) (shownAll_ok h), strOk_lit]
  rfl
theorem pfine_tuple {xs : List PyData} (h : ∀ x ∈ xs, PFine x) : PFine (.tuple xs) := by
  obtain ⟨a, b, c⟩ := all_show h
  refine ⟨by simpa [PyData.showable] using a, by simpa [PyData.leavesShort] using b, ?_, by simpa [PyData.plain] using c⟩
  have l : PyData.strOk (PyData.list xs).shown = true := (pfine_list h).ok
  rw [PyData.shown_list, strOk_app, strOk_app] at l
  simp only [Bool.and_eq_true] at l
  rw [PyData.shown_tuple, strOk_app, strOk_app, l.1.2, strOk_lit, strOk_lit]
  rfl
mutual
theorem fine_p : ∀ {d : D}, fineD d = true → PFine (toP d)
  | .none, _ => ⟨by simp [toP, PyData.showable], by simp [toP, PyData.leavesShort], by rw [toP, PyData.shown_none]; exact strOk_lit _, by simp [toP, PyData.plain]⟩
  | .bool b, _ => ⟨by simp [toP, PyData.showable], by simp [toP, PyData.leavesShort], by rw [toP, PyData.shown_bool]; cases b <;> exact strOk_lit _, by simp [toP, PyData.plain]⟩
  | .int i, h => by
    simp only [fineD, decide_eq_true_eq] at h
    refine ⟨?_, ?_, by rw [toP, PyData.shown_int]; exact strOk_lit _, by simp [toP, PyData.plain]⟩
    · simp only [toP, PyData.showable, decide_eq_true_eq]
      refine Nat.lt_of_le_of_lt (m := 40) ?_ (by decide)
      have : i.natAbs < 2 ^ 41 := Nat.lt_trans h (by decide)
      by_cases z : i.natAbs = 0
      · rw [z]; decide
      · have := (Nat.log2_lt z).mpr this
        omega
    · simp only [toP, PyData.leavesShort, decide_eq_true_eq]
      exact PyData.shown_int_le h
  | .str s, h => by
    simp only [fineD, strFine, Bool.and_eq_true] at h
    refine ⟨by simp [toP, PyData.showable], ?_, by rw [toP, PyData.shown_str]; exact h.2, by simp [toP, PyData.plain]⟩
    have := h.1
    simp only [PyData.strOk] at this
    simp only [toP, PyData.leavesShort, List.all_eq_true, decide_eq_true_eq]
    intro c hc
    have := Array.all_eq_true_iff_forall_mem.mp this c (by simpa using hc)
    have := of_decide_eq_true this
    omega
  | .tup xs, h => by
    simp only [fineD] at h
    rw [toP]
    exact pfine_tuple (fine_ps h)
  | .ref _, h => by simp [fineD] at h
  | .fn _, h => by simp [fineD] at h
  | .clo _, h => by simp [fineD] at h
theorem fine_ps : ∀ {ds : List D}, fineDs ds = true → ∀ x ∈ toPs ds, PFine x
  | [], _, x, hx => by simp [toPs] at hx
  | d :: ds, h, x, hx => by
    simp only [fineDs, Bool.and_eq_true] at h
    simp only [toPs, List.mem_cons] at hx
    rcases hx with rfl | hx
    · exact fine_p h.1
    · exact fine_ps h.2 x hx
end
mutual
/-- more than its weight -/
def szD : D → Nat
  | .int _ => 41
  | .str s => s.cps.size
  | .tup xs => szDs xs
  | _ => 0
def szDs : List D → Nat
  | [] => 0
  | x :: xs => szD x + 1 + szDs xs
end
mutual
theorem wt_le : ∀ {d : D}, fineD d = true → (toP d).weight ≤ szD d
  | .none, _ => by simp [toP, PyData.weight]
  | .bool b, _ => by simp [toP, PyData.weight]
  | .int i, h => by
    simp only [fineD, decide_eq_true_eq] at h
    simp only [toP, PyData.weight, szD]
    split
    · omega
    · have : i.natAbs < 2 ^ 40 := Nat.lt_trans h (by decide)
      rename_i z
      have z0 : i.natAbs ≠ 0 := by
        intro e
        exact z (by simpa using e)
      have := (Nat.log2_lt z0).mpr this
      omega
  | .str s, _ => by simp [toP, PyData.weight, szD]
  | .tup xs, h => by
    simp only [fineD] at h
    have := wts_le h
    simpa [toP, PyData.weight, szD] using this
  | .ref _, h => by simp [fineD] at h
  | .fn _, h => by simp [fineD] at h
  | .clo _, h => by simp [fineD] at h
theorem wts_le : ∀ {ds : List D}, fineDs ds = true → PyData.weightAll (toPs ds) ≤ szDs ds
  | [], _ => by simp [toPs, PyData.weightAll]
  | d :: ds, h => by
    simp only [fineDs, Bool.and_eq_true] at h
    have a := wt_le h.1
    have b := wts_le h.2
    simp only [toPs, PyData.weightAll, szDs]
    omega
end
/-- a value that can be shown and held against another -/
structure PGood (h : Hs) (a : D) (p : PyData) : Prop where
  py : pyD h deep a = some p
  fine : PFine p
  wt : p.weight ≤ 2 ^ 20
theorem PGood.of {h : Hs} {d : D} (f : fineD d = true) (dp : dpD d ≤ 40) (sz : szD d ≤ 2 ^ 20) : PGood h d (toP d) := ⟨pyD_fine f dp, fine_p f, Nat.le_trans (wt_le f) sz⟩
theorem PGood.list {h : Hs} {i : Nat} {xs : List D} (hi : h[i]? = some (.list xs)) (f : fineDs xs = true) (dp : dpDs xs ≤ 39) (sz : szDs xs ≤ 2 ^ 20) : PGood h (.ref i) (.list (toPs xs)) := by
  refine ⟨?_, pfine_list (fine_ps f), by have := wts_le f; simp only [PyData.weight]; omega⟩
  show pyD h (39 + 1) (.ref i) = _
  rw [pyD, hi]
  simp [pyDs_fine f dp]
theorem repr_good {h : Hs} {a : D} {p : PyData} (g : PGood h a p) : F1.repr.run a h = some (.str p.shown) := by
  have sz := PyData.shown_fits (B := 13) (by decide) (by decide) g.fine.short g.wt
  have : F1.repr.run a h = match pyD h deep a with
    | some p => if p.showable && decide (p.shown.length ≤ sizeLine) then some (.str p.shown) else none
    | none => none := by
    cases a <;> rfl
  rw [this, g.py]
  simp [g.fine.show_, sz]
theorem eq_good {h : Hs} {a b : D} {p : PyData} (g : PGood h a p) (g' : PGood h b p) : Cop.eq.run a b h = some true := by
  show eqvD h a b = _
  unfold eqvD
  rw [g.py, g'.py]
  simp [PySem.SeqAt.eqv_refl_plain p g.fine.plain]
theorem eq_str {h : Hs} {s : Str} (hs : PyData.strOk s = true) : Cop.eq.run (.str s) (.str s) h = some true := by
  show eqvD h _ _ = _
  unfold eqvD
  simp [deep, pyD, hs, PyData.eqv]
theorem alike_run {c : Ct} {a b : D} {h : Hs} {p : PyData} (g : PGood h a p) (g' : PGood h b p) :
    evE (.bop true (.cons (.cmp .eq (.f1 .repr (.var 0)) (.f1 .repr (.var 1))) (.cons (.cmp .eq (.var 0) (.var 1)) .nil))) c [some a, some b] h = .ok (.bool true) h := by
  rw [evE_bop]
  refine evB_and (p := true) (q := true) ?_ fun _ => ?_
  · simp [evE, repr_good g, repr_good g', eq_str g.fine.ok]
  · simp [evB, evE, eq_good g g']
theorem fine_ints {xs : List Int} (hx : ∀ x ∈ xs, x.natAbs < 10 ^ 12) : fineDs (xs.map .int) = true := by
  induction xs with
  | nil => rfl
  | cons x xs ih => simp [fineDs, fineD, ih fun y hy => hx y (by simp [hy])]; exact hx x (by simp)
theorem dp_ints : ∀ xs : List Int, dpDs (xs.map .int) ≤ 1
  | [] => by simp [dpDs]
  | x :: xs => by
    have := dp_ints xs
    simp only [List.map_cons, dpDs, dpD]
    omega
theorem sz_ints : ∀ xs : List Int, szDs (xs.map .int) = 42 * xs.length
  | [] => rfl
  | x :: xs => by
    have := sz_ints xs
    simp only [List.map_cons, szDs, szD, List.length_cons]
    omega
theorem fineDs_of {xs : List D} (h : ∀ x ∈ xs, fineD x = true) : fineDs xs = true := by
  induction xs with
  | nil => rfl
  | cons x xs ih => simp [fineDs, h x (by simp), ih fun y hy => h y (by simp [hy])]
theorem dpDs_of {xs : List D} {n : Nat} (h : ∀ x ∈ xs, dpD x ≤ n) : dpDs xs ≤ n := by
  induction xs with
  | nil => simp [dpDs]
  | cons x xs ih =>
    have := h x (by simp)
    have := ih fun y hy => h y (by simp [hy])
    simp only [dpDs]
    omega
theorem szDs_of {xs : List D} {n : Nat} (h : ∀ x ∈ xs, szD x ≤ n) : szDs xs ≤ (n + 1) * xs.length := by
  induction xs with
  | nil => simp [szDs]
  | cons x xs ih =>
    have := h x (by simp)
    have := ih fun y hy => h y (by simp [hy])
    simp only [szDs, List.length_cons, Nat.mul_add]
    omega
theorem fine_dI {xs : List Int} (hx : ∀ x ∈ xs, x.natAbs < 10 ^ 12) : fineD (dI xs) = true := by
  rw [fineD]
  exact fine_ints hx
theorem dp_dI (xs : List Int) : dpD (dI xs) ≤ 2 := by
  have := dp_ints xs
  simp only [dpD]
  omega
theorem sz_dI (xs : List Int) : szD (dI xs) = 42 * xs.length := by
  rw [szD]
  exact sz_ints xs
theorem eq_nil {h : Hs} {i j : Nat} {xs : List D} (hi : h[i]? = some (.list xs)) (hj : h[j]? = some (.list [])) (f : fineDs xs = true) (dp : dpDs xs ≤ 39) : Cop.eq.run (.ref i) (.ref j) h = some (decide (xs = [])) := by
  show eqvD h _ _ = _
  unfold eqvD
  have a : pyD h deep (.ref i) = some (.list (toPs xs)) := by
    show pyD h (39 + 1) (.ref i) = _
    rw [pyD, hi]
    simp [pyDs_fine f dp]
  have b : pyD h deep (.ref j) = some (.list []) := by
    show pyD h (39 + 1) (.ref j) = _
    rw [pyD, hj]
    simp [mapO]
  rw [a, b]
  cases xs with
  | nil => simp [toPs, PyData.eqv, PyData.eqvAll]
  | cons x xs => simp [toPs, PyData.eqv, PyData.eqvAll]
theorem ne_nil {h : Hs} {i j : Nat} {xs : List D} (hi : h[i]? = some (.list xs)) (hj : h[j]? = some (.list [])) (f : fineDs xs = true) (dp : dpDs xs ≤ 39) : Cop.ne.run (.ref i) (.ref j) h = some (decide (xs ≠ [])) := by
  have := eq_nil hi hj f dp
  show (eqvD h _ _).map (!·) = _
  rw [show eqvD h (.ref i) (.ref j) = some (decide (xs = [])) from this]
  simp
end MI
end
section
/-! NM: rows, lots and numbers as Lean's own. -/
namespace MI
open PySem
def isIntD : D → Bool | .int _ => true | _ => false
def isCountD : D → Bool | .int i => decide (0 ≤ i) | _ => false
/-- no cell, no def -/
def plainD : D → Bool | .ref _ => false | .fn _ => false | .clo _ => false | _ => true
def risingI (xs : List Int) : Bool := (xs.zip (xs.drop 1)).all fun p => decide (p.1 < p.2)
def lotI (xs : List Int) (many : Int) : Bool := xs.all (fun x => decide (0 ≤ x)) && (risingI xs && xs.all (fun x => decide (x < many)))
/-- the columns that are 1 -/
def onesI (row : List Int) : List Int := ((List.range row.length).filter fun k => (row[k]?).any fun b => decide (b = 1)).map fun k : Nat => (k : Int)
def rowI (many : Nat) (ones : List Int) : List Int := (List.range many).map fun k => if ((k : Nat) : Int) ∈ ones then 1 else 0
def numI (row : List Int) : Int := row.foldl (fun a b => 2 * a + b) 0
/-- all rows of so many columns -/
def rowsI (many : Nat) : List (List Int) := (List.range (2 ^ many)).map fun k : Nat => madeI many (k : Int)
def underI (one other : List Int) : Bool := (one.zip other).all fun p => decide (p.1 ≤ p.2)
def unlikeI (one other : List Int) : List Int := (((one.zip other).zipIdx).filter fun p => decide (p.1.1 ≠ p.1.2)).map fun p => (p.2 : Int)
theorem rising_of : ∀ {xs : List Int}, xs.Pairwise (· < ·) → risingI xs = true
  | [], _ => rfl
  | [x], _ => rfl
  | x :: y :: r, h => by
    have h2 := rising_of (List.pairwise_cons.mp h).2
    have h1 := (List.pairwise_cons.mp h).1 y (by simp)
    unfold risingI at h2 ⊢
    simp only [List.drop_succ_cons, List.drop_zero, List.zip_cons_cons, List.all_cons] at h2 ⊢
    simp [h1, h2]
abbrev rangeI (m : Nat) : List Int := (List.range m).map fun k : Nat => (k : Int)
theorem lot_of_sub {xs : List Int} {m : Nat} (h : xs.Sublist (rangeI m)) : lotI xs m = true := by
  have mem : ∀ x ∈ xs, 0 ≤ x ∧ x < m := fun x hx => by
    obtain ⟨k, hk, rfl⟩ := List.mem_map.mp (h.subset hx)
    have := List.mem_range.mp hk
    omega
  have pw : (rangeI m).Pairwise (· < ·) := by
    rw [List.pairwise_map]
    exact List.pairwise_lt_range.imp fun h => by omega
  unfold lotI
  rw [rising_of (pw.sublist h)]
  simp only [Bool.true_and, Bool.and_eq_true, List.all_eq_true, decide_eq_true_eq]
  exact ⟨fun x hx => (mem x hx).1, fun x hx => (mem x hx).2⟩
theorem filter_mem_sub {α : Type} [DecidableEq α] : ∀ {xs l : List α}, xs.Sublist l → l.Nodup → (l.filter fun k => decide (k ∈ xs)) = xs
  | _, _, .slnil, _ => rfl
  | _, _, .cons a h, n => by
    obtain ⟨n1, n2⟩ := List.nodup_cons.mp n
    rw [List.filter_cons, if_neg, filter_mem_sub h n2]
    simp only [decide_eq_true_eq]
    exact fun z => n1 (h.subset z)
  | _, _, .cons₂ (l₁ := l1) (l₂ := l2) a h, n => by
    obtain ⟨n1, n2⟩ := List.nodup_cons.mp n
    rw [List.filter_cons, if_pos (by simp)]
    congr 1
    refine Eq.trans ?_ (filter_mem_sub h n2)
    refine List.filter_congr fun k hk => ?_
    have : k ≠ a := fun z => n1 (z ▸ hk)
    simp [this]
theorem ones_row {zs : List Nat} {m : Nat} (h : zs.Sublist (List.range m)) : onesI (rowI m (zs.map fun k : Nat => (k : Int))) = zs.map fun k : Nat => (k : Int) := by
  unfold onesI rowI
  congr 1
  rw [List.length_map, List.length_range]
  refine Eq.trans (List.filter_congr fun k hk => ?_) (filter_mem_sub h List.nodup_range)
  have hk' := List.mem_range.mp hk
  rw [List.getElem?_map, List.getElem?_range hk']
  by_cases hz : k ∈ zs
  · have : ∃ a, a ∈ zs ∧ (a : Int) = (k : Int) := ⟨k, hz, rfl⟩
    simp [hz, this]
  · have : ¬ ∃ a, a ∈ zs ∧ (a : Int) = (k : Int) := fun ⟨a, h1, h2⟩ => by
      have : a = k := by omega
      exact hz (this ▸ h1)
    simp [hz, this]
abbrev Bits (row : List Int) : Prop := ∀ x ∈ row, x = 0 ∨ x = 1
theorem mem_ones {row : List Int} {k : Nat} : (k : Int) ∈ onesI row ↔ row[k]? = some 1 := by
  unfold onesI
  simp only [List.mem_map, List.mem_filter, List.mem_range]
  constructor
  · rintro ⟨j, ⟨h1, h2⟩, h3⟩
    have : j = k := by omega
    subst this
    cases hr : row[j]? with
    | none => rw [hr] at h2; simp at h2
    | some x => rw [hr] at h2; simp at h2; rw [h2]
  · intro h
    exact ⟨k, ⟨(List.getElem?_eq_some_iff.mp h).1, by rw [h]; simp⟩, rfl⟩
theorem ones_sub (row : List Int) : (onesI row).Sublist (rangeI row.length) := List.Sublist.map _ List.filter_sublist
theorem row_ones {row : List Int} (b : Bits row) : rowI row.length (onesI row) = row := by
  unfold rowI
  refine List.ext_getElem? fun k => ?_
  rw [List.getElem?_map]
  by_cases hk : k < row.length
  · rw [List.getElem?_range hk]
    simp only [Option.map_some, mem_ones]
    rw [List.getElem?_eq_getElem hk]
    rcases b row[k] (List.getElem_mem hk) with z | z <;> simp [z]
  · rw [List.getElem?_eq_none (by simpa using hk), List.getElem?_eq_none (by omega)]
    rfl
theorem num_app (xs : List Int) (b : Int) : numI (xs ++ [b]) = 2 * numI xs + b := by simp [numI, List.foldl_append]
theorem made_succ (m : Nat) (n : Int) : madeI (m + 1) n = madeI m (n / 2) ++ [n % 2] := by simp [madeI, digI]
theorem made_len (m : Nat) : ∀ n : Int, (madeI m n).length = m := by
  induction m with
  | zero => intro n; rfl
  | succ m ih => intro n; rw [made_succ, List.length_append, ih]; rfl
theorem made_bits (m : Nat) : ∀ n : Int, Bits (madeI m n) := by
  induction m with
  | zero => intro n x hx; simp [madeI, digI] at hx
  | succ m ih =>
    intro n x hx
    rw [made_succ, List.mem_append] at hx
    rcases hx with hx | hx
    · exact ih _ x hx
    · simp at hx
      omega
theorem num_made (m : Nat) : ∀ n : Int, 0 ≤ n → n < 2 ^ m → numI (madeI m n) = n := by
  induction m with
  | zero => intro n h0 h1; simp at h1; have : n = 0 := by omega
            subst this; rfl
  | succ m ih =>
    intro n h0 h1
    rw [made_succ, num_app, ih (n / 2) (by omega) (by rw [Int.pow_succ] at h1; omega)]
    omega
theorem rev_ind {p : List Int → Prop} (h0 : p []) (h1 : ∀ xs b, p xs → p (xs ++ [b])) (xs : List Int) : p xs := by
  have : ∀ ys : List Int, p ys.reverse := fun ys => by
    induction ys with
    | nil => exact h0
    | cons y ys ih => rw [List.reverse_cons]; exact h1 _ _ ih
  have := this xs.reverse
  rwa [List.reverse_reverse] at this
theorem num_lt {row : List Int} (b : Bits row) : 0 ≤ numI row ∧ numI row < 2 ^ row.length := by
  revert b
  refine rev_ind (p := fun row => Bits row → 0 ≤ numI row ∧ numI row < 2 ^ row.length) (fun _ => by simp [numI]) (fun xs y ih b => ?_) row
  have := ih fun x hx => b x (by simp [hx])
  have hy := b y (by simp)
  rw [num_app, List.length_append, List.length_singleton, Int.pow_succ]
  omega
theorem made_num {row : List Int} (b : Bits row) : madeI row.length (numI row) = row := by
  revert b
  refine rev_ind (p := fun row => Bits row → madeI row.length (numI row) = row) (fun _ => rfl) (fun xs y ih b => ?_) row
  have := ih fun x hx => b x (by simp [hx])
  have hy := b y (by simp)
  rw [num_app, List.length_append, List.length_singleton, made_succ]
  rw [show (2 * numI xs + y) / 2 = numI xs by omega, show (2 * numI xs + y) % 2 = y by omega, this]
theorem range_two (n : Nat) : List.range (2 * n) = (List.range n).flatMap fun k => [2 * k, 2 * k + 1] := by
  induction n with
  | zero => rfl
  | succ n ih =>
    rw [show 2 * (n + 1) = 2 * n + 1 + 1 by omega, List.range_succ, List.range_succ, ih, List.range_succ, List.flatMap_append]
    simp
/-- all rows, the one behind the other -/
def lawRows : Nat → List (List Int)
  | 0 => [[]]
  | m + 1 => (lawRows m).flatMap fun r => [r ++ [0], r ++ [1]]
theorem rows_law : ∀ m, rowsI m = lawRows m
  | 0 => rfl
  | m + 1 => by
    have ih := rows_law m
    unfold rowsI at ih ⊢
    rw [lawRows, ← ih, Nat.pow_succ, Nat.mul_comm, range_two, List.map_flatMap, List.flatMap_map]
    congr 1
    funext k
    simp only [List.map_cons, List.map_nil, made_succ]
    rw [show ((2 * k : Nat) : Int) / 2 = k by omega, show ((2 * k : Nat) : Int) % 2 = 0 by omega, show ((2 * k + 1 : Nat) : Int) / 2 = k by omega, show ((2 * k + 1 : Nat) : Int) % 2 = 1 by omega]
theorem under_filter {one other : List Int} (hl : one.length = other.length) : underI one other = decide (((List.range one.length).filter fun k => decide (other.getD k 0 < one.getD k 0)) = []) := by
  unfold underI
  by_cases h : ((one.zip other).all fun p => decide (p.1 ≤ p.2)) = true
  · rw [h]
    symm
    simp only [decide_eq_true_eq]
    rw [List.filter_eq_nil_iff]
    intro k hk
    have hk := List.mem_range.mp hk
    have m : (one[k], other[k]'(hl ▸ hk)) ∈ one.zip other := by
      rw [List.mem_iff_getElem]
      exact ⟨k, by simp; omega, by simp⟩
    have := List.all_eq_true.mp h _ m
    simp at this
    simp [List.getElem?_eq_getElem hk, List.getElem?_eq_getElem (hl ▸ hk : k < other.length)]
    omega
  · have h' := Bool.eq_false_iff.mpr h
    rw [h']
    symm
    rw [decide_eq_false_iff_not]
    intro z
    apply h
    rw [List.all_eq_true]
    intro p hp
    obtain ⟨k, hk, e⟩ := List.mem_iff_getElem.mp hp
    have hk1 : k < one.length := by simp at hk; omega
    have hk2 : k < other.length := by simp at hk; omega
    have := List.filter_eq_nil_iff.mp z k (List.mem_range.mpr hk1)
    simp [List.getElem?_eq_getElem hk1, List.getElem?_eq_getElem hk2] at this
    rw [← e]
    simp
    omega
theorem unlike_filter {one other : List Int} (hl : one.length = other.length) : unlikeI one other = ((List.range one.length).filter fun k => decide (one.getD k 0 ≠ other.getD k 0)).map fun k : Nat => (k : Int) := by
  unfold unlikeI
  have z := zipIdx_flt (fun p : Int × Int => decide (p.1 ≠ p.2)) (one.zip other) 0
  have e : (((one.zip other).zipIdx).filter fun p => decide (p.1.1 ≠ p.1.2)).map (fun p => (p.2 : Int)) = ((((one.zip other).zipIdx).filter fun p => decide (p.1.1 ≠ p.1.2)).map (fun p => p.2)).map fun k : Nat => (k : Int) := by rw [List.map_map]; rfl
  rw [e, z]
  simp only [Nat.add_zero, List.map_id']
  congr 1
  rw [List.length_zip, ← hl, Nat.min_self]
  refine List.filter_congr fun k hk => ?_
  have hk := List.mem_range.mp hk
  rw [List.getElem?_eq_getElem (by simp; omega)]
  simp [List.getElem?_eq_getElem hk, List.getElem?_eq_getElem (hl ▸ hk : k < other.length)]
end MI
end
section
set_option maxHeartbeats 0
namespace K01
open PySem MI
def n__wall : Nat := 0
def n_is_integer : Nat := 1
def n_is_count : Nat := 2
def n_are_rising : Nat := 3
def n_is_tuple_of : Nat := 4
def n_is_lot : Nat := 5
def n_ones_of : Nat := 6
def n_row_of : Nat := 7
def n_number_of_row : Nat := 8
def n_made_row : Nat := 9
def n_power_of_two : Nat := 10
def n_row_by : Nat := 11
def n_all_rows : Nat := 12
def n_is_under : Nat := 13
def n_unlike_columns : Nat := 14
def n__law_bag : Nat := 15
def n__law_take : Nat := 16
def n__law_alike : Nat := 17
def n__law_rows : Nat := 18
def n__law_lot : Nat := 19
def n__law_is_nothing : Nat := 20
def n_law : Nat := 21
def g_MOST_COLUMNS : Nat := 0
def c_ShapeError : Nat := 0
def c_Nothing : Nat := 1
def b__wall : Ss := (.cons (.while_ (.lit (.bool true)) (.cons .pass .nil)) .nil)
def f__wall : Fd := ⟨(Str.ofString "_wall"), 1, [(Str.ofString "k")], false, b__wall⟩
def b_is_integer : Ss := (.cons (.ret (.bop true (.cons (.isi (.var 0) .int) (.cons (.not (.isi (.var 0) .bool)) .nil)))) .nil)
def f_is_integer : Fd := ⟨(Str.ofString "is_integer"), 1, [(Str.ofString "thing")], false, b_is_integer⟩
def b_is_count : Ss := (.cons (.ret (.bop true (.cons (.call n_is_integer (.cons (.var 0) .nil)) (.cons (.cmp .ge (.var 0) (.lit (.int 0))) .nil)))) .nil)
def f_is_count : Fd := ⟨(Str.ofString "is_count"), 1, [(Str.ofString "thing")], false, b_is_count⟩
def b_are_rising : Ss := (.cons (.ret (.fl .all (.l (.comp (.cmp .lt (.var 1) (.var 2)) (.t [(.v 1), (.v 2)]) (.zip (.var 0) (.sl (.var 0) (.some (.lit (.int 1))) .none)) .nil)))) .nil)
def f_are_rising : Fd := ⟨(Str.ofString "are_rising"), 1, [(Str.ofString "things"), (Str.ofString "one"), (Str.ofString "other")], false, b_are_rising⟩
def b_is_tuple_of : Ss := (.cons (.ret (.bop true (.cons (.isi (.var 0) .tuple) (.cons (.fl .all (.l (.comp (.callv 1 (.cons (.var 2) .nil)) (.v 2) (.e (.var 0)) .nil))) .nil)))) .nil)
def f_is_tuple_of : Fd := ⟨(Str.ofString "is_tuple_of"), 2, [(Str.ofString "thing"), (Str.ofString "is_item"), (Str.ofString "item")], false, b_is_tuple_of⟩
def b_is_lot : Ss := (.cons (.ret (.bop true (.cons (.call n_is_tuple_of (.cons (.var 0) (.cons (.fnv n_is_count) .nil))) (.cons (.call n_are_rising (.cons (.var 0) .nil)) (.cons (.fl .all (.l (.comp (.cmp .lt (.var 2) (.var 1)) (.v 2) (.e (.var 0)) .nil))) .nil))))) .nil)
def f_is_lot : Fd := ⟨(Str.ofString "is_lot"), 2, [(Str.ofString "thing"), (Str.ofString "many"), (Str.ofString "number")], false, b_is_lot⟩
def b_ones_of : Ss := (.cons (.ret (.fl .tuple (.l (.comp (.var 1) (.t [(.v 1), (.v 2)]) (.enum (.var 0)) (.cons (.cmp .eq (.var 2) (.lit (.int 1))) .nil))))) .nil)
def f_ones_of : Fd := ⟨(Str.ofString "ones_of"), 1, [(Str.ofString "row"), (Str.ofString "column"), (Str.ofString "bit")], false, b_ones_of⟩
def b_row_of : Ss := (.cons (.ite (.not (.call n_is_lot (.cons (.var 1) (.cons (.var 0) .nil)))) (.cons (.raise c_Nothing .nil) .nil) .nil) (.cons (.ret (.fl .tuple (.l (.comp (.f1 .int (.cmp .inn (.var 2) (.var 1))) (.v 2) (.range1 (.var 0)) .nil)))) .nil))
def f_row_of : Fd := ⟨(Str.ofString "row_of"), 2, [(Str.ofString "many"), (Str.ofString "ones"), (Str.ofString "column")], false, b_row_of⟩
def b_number_of_row : Ss := (.cons (.assign (.v 1) (.lit (.int 0))) (.cons (.for_ (.v 2) (.e (.var 0)) (.cons (.assign (.v 1) (.bin .add (.bin .mul (.lit (.int 2)) (.var 1)) (.var 2))) .nil)) (.cons (.ret (.var 1)) .nil)))
def f_number_of_row : Fd := ⟨(Str.ofString "number_of_row"), 1, [(Str.ofString "row"), (Str.ofString "found"), (Str.ofString "bit")], false, b_number_of_row⟩
def b_made_row : Ss := (.cons (.assign (.v 2) (.new (.disp .nil))) (.cons (.for_ (.v 3) (.range1 (.var 0)) (.cons (.expr (.meth .append (.var 2) (.cons (.bin .mod (.var 1) (.lit (.int 2))) .nil))) (.cons (.assign (.v 1) (.bin .fdiv (.var 1) (.lit (.int 2)))) .nil))) (.cons (.ret (.fl .tuple (.e (.rev (.var 2))))) .nil)))
def f_made_row : Fd := ⟨(Str.ofString "made_row"), 2, [(Str.ofString "many"), (Str.ofString "number"), (Str.ofString "found"), (Str.ofString "_column")], false, b_made_row⟩
def b_power_of_two : Ss := (.cons (.assign (.v 1) (.lit (.int 1))) (.cons (.for_ (.v 2) (.range1 (.var 0)) (.cons (.aug 1 .mul (.lit (.int 2))) .nil)) (.cons (.ret (.var 1)) .nil)))
def f_power_of_two : Fd := ⟨(Str.ofString "power_of_two"), 1, [(Str.ofString "many"), (Str.ofString "found"), (Str.ofString "_time")], false, b_power_of_two⟩
def b_row_by : Ss := (.cons (.ite (.bop false (.cons (.not (.call n_is_count (.cons (.var 1) .nil))) (.cons (.cmp .ge (.var 1) (.call n_power_of_two (.cons (.var 0) .nil))) .nil))) (.cons (.raise c_Nothing .nil) .nil) .nil) (.cons (.ret (.call n_made_row (.cons (.var 0) (.cons (.var 1) .nil)))) .nil))
def f_row_by : Fd := ⟨(Str.ofString "row_by"), 2, [(Str.ofString "many"), (Str.ofString "number")], false, b_row_by⟩
def b_all_rows : Ss := (.cons (.ite (.bop false (.cons (.not (.call n_is_count (.cons (.var 0) .nil))) (.cons (.not (.chain .le .le (.lit (.int 1)) (.var 0) (.glob g_MOST_COLUMNS))) .nil))) (.cons (.raise c_Nothing .nil) .nil) .nil) (.cons (.ret (.fl .tuple (.l (.comp (.call n_made_row (.cons (.var 0) (.cons (.var 1) .nil))) (.v 1) (.range1 (.call n_power_of_two (.cons (.var 0) .nil))) .nil)))) .nil))
def f_all_rows : Fd := ⟨(Str.ofString "all_rows"), 1, [(Str.ofString "many"), (Str.ofString "number")], false, b_all_rows⟩
def b_is_under : Ss := (.cons (.ret (.fl .all (.l (.comp (.cmp .le (.var 2) (.var 3)) (.t [(.v 2), (.v 3)]) (.zip (.var 0) (.var 1)) .nil)))) .nil)
def f_is_under : Fd := ⟨(Str.ofString "is_under"), 2, [(Str.ofString "one"), (Str.ofString "other"), (Str.ofString "bit"), (Str.ofString "its")], false, b_is_under⟩
def b_unlike_columns : Ss := (.cons (.ret (.fl .tuple (.l (.comp (.var 2) (.t [(.v 2), (.t [(.v 3), (.v 4)])]) (.enumZ (.var 0) (.var 1)) (.cons (.cmp .ne (.var 3) (.var 4)) .nil))))) .nil)
def f_unlike_columns : Fd := ⟨(Str.ofString "unlike_columns"), 2, [(Str.ofString "one"), (Str.ofString "other"), (Str.ofString "column"), (Str.ofString "bit"), (Str.ofString "its")], false, b_unlike_columns⟩
def b__law_bag : Ss := (.cons (.ret (.new (.disp (.cons (.lit (.int 0)) (.cons (.lit (.int 1234567891)) (.cons (.lit (.int 0)) (.cons (.new (.comp (.f1 .abs (.var 1)) (.v 1) (.e (.sl (.var 0) .none (.some (.lit (.int 63))))) .nil)) .nil))))))) .nil)
def f__law_bag : Fd := ⟨(Str.ofString "_law_bag"), 1, [(Str.ofString "script"), (Str.ofString "cell")], false, b__law_bag⟩
def b__law_take : Ss := (.cons (.ite (.cmp .eq (.idx (.var 0) (.lit (.int 0))) (.lit (.int 0))) (.cons (.assign (.v 4) (.idx (.bin .add (.sl (.idx (.var 0) (.lit (.int 3))) (.some (.idx (.var 0) (.lit (.int 2)))) .none) (.new (.disp (.cons (.lit (.int 0)) .nil)))) (.lit (.int 0)))) (.cons (.augsub (.var 0) (.lit (.int 2)) .add (.lit (.int 1))) (.cons (.ite (.cmp .ge (.var 4) (.bin .pow (.lit (.int 10)) (.lit (.int 18)))) (.cons (.asub (.var 0) (.lit (.int 0)) (.var 4)) .nil) .nil) (.cons (.assign (.v 5) (.bin .add (.bin .add (.bin .mul (.idx (.var 0) (.lit (.int 1))) (.lit (.int 48271))) (.bin .mod (.f1 .int (.var 4)) (.lit (.int 2147483647)))) (.bin .mul (.lit (.int 7919)) (.idx (.var 0) (.lit (.int 2)))))) (.cons (.asub (.var 0) (.lit (.int 1)) (.bin .mod (.f1 .int (.var 5)) (.lit (.int 2147483647)))) .nil))))) .nil) (.cons (.ite (.cmp .gt (.idx (.var 0) (.lit (.int 0))) (.lit (.int 0))) (.cons (.assign (.v 6) (.bin .mod (.f1 .int (.idx (.var 0) (.lit (.int 0)))) (.var 1))) (.cons (.asub (.var 0) (.lit (.int 0)) (.bin .fdiv (.f1 .int (.idx (.var 0) (.lit (.int 0)))) (.var 1))) (.cons (.ret (.var 6)) .nil))) .nil) (.cons (.assign (.v 2) (.bin .mod (.f1 .int (.bin .mul (.bin .add (.idx (.var 0) (.lit (.int 1))) (.lit (.int 1))) (.lit (.int 39373)))) (.lit (.int 1000000007)))) (.cons (.assign (.v 3) (.bin .mod (.f1 .int (.bin .mul (.bin .mod (.f1 .int (.bin .mul (.var 2) (.var 2))) (.lit (.int 998244353))) (.lit (.int 30011)))) (.lit (.int 998244353)))) (.cons (.ret (.bin .mod (.f1 .int (.bin .fdiv (.var 3) (.lit (.int 7)))) (.var 1))) .nil)))))
def f__law_take : Fd := ⟨(Str.ofString "_law_take"), 2, [(Str.ofString "bag"), (Str.ofString "many"), (Str.ofString "begin"), (Str.ofString "second"), (Str.ofString "cell"), (Str.ofString "stirred"), (Str.ofString "value")], false, b__law_take⟩
def b__law_alike : Ss := (.cons (.ret (.bop true (.cons (.cmp .eq (.f1 .repr (.var 0)) (.f1 .repr (.var 1))) (.cons (.cmp .eq (.var 0) (.var 1)) .nil)))) .nil)
def f__law_alike : Fd := ⟨(Str.ofString "_law_alike"), 2, [(Str.ofString "found"), (Str.ofString "due")], false, b__law_alike⟩
def b__law_rows : Ss := (.cons (.assign (.v 1) (.new (.disp (.cons (.tup .nil) .nil)))) (.cons (.for_ (.v 2) (.range1 (.var 0)) (.cons (.assign (.v 3) (.new (.disp .nil))) (.cons (.for_ (.v 4) (.e (.var 1)) (.cons (.expr (.meth .extend (.var 3) (.cons (.new (.disp (.cons (.bin .add (.var 4) (.tup (.cons (.lit (.int 0)) .nil))) (.cons (.bin .add (.var 4) (.tup (.cons (.lit (.int 1)) .nil))) .nil)))) .nil))) .nil)) (.cons (.assign (.v 1) (.var 3)) .nil)))) (.cons (.ret (.var 1)) .nil)))
def f__law_rows : Fd := ⟨(Str.ofString "_law_rows"), 1, [(Str.ofString "many"), (Str.ofString "rows"), (Str.ofString "lap"), (Str.ofString "further"), (Str.ofString "row")], false, b__law_rows⟩
def b__law_lot : Ss := (.cons (.ret (.fl .tuple (.l (.comp (.var 2) (.v 2) (.range1 (.var 1)) (.cons (.cmp .eq (.call n__law_take (.cons (.var 0) (.cons (.lit (.int 2)) .nil))) (.lit (.int 0))) .nil))))) .nil)
def f__law_lot : Fd := ⟨(Str.ofString "_law_lot"), 2, [(Str.ofString "bag"), (Str.ofString "many"), (Str.ofString "k")], false, b__law_lot⟩
def f__law_is_nothing : Fd := ⟨(Str.ofString "_law_is_nothing"), 1, [(Str.ofString "act")], false, .cons .brk .nil⟩
def lb : Ss := (.cons (.assign (.v 1) (.call n__law_bag (.cons (.var 0) .nil))) (.cons (.for_ (.v 2) (.range1 (.lit (.int 6))) (.cons (.assign (.v 3) (.bin .add (.lit (.int 1)) (.call n__law_take (.cons (.var 1) (.cons (.lit (.int 8)) .nil))))) (.cons (.assign (.t [(.v 16), (.v 17)]) (.new (.comp (.fl .tuple (.l (.comp (.call n__law_take (.cons (.var 1) (.cons (.lit (.int 2)) .nil))) (.v 12) (.range1 (.var 3)) .nil))) (.v 18) (.range1 (.lit (.int 2))) .nil))) (.cons (.assign (.v 4) (.fl .tuple (.l (.comp (.var 12) (.v 12) (.range1 (.var 3)) (.cons (.cmp .eq (.idx (.var 16) (.var 12)) (.lit (.int 1))) .nil))))) (.cons (.assign (.v 5) (.lit (.int 0))) (.cons (.for_ (.v 6) (.e (.var 16)) (.cons (.assign (.v 5) (.bin .add (.bin .mul (.lit (.int 2)) (.var 5)) (.var 6))) .nil)) (.cons (.assign (.v 7) (.new (.disp (.cons (.call n_ones_of (.cons (.var 16) .nil)) (.cons (.call n_row_of (.cons (.var 3) (.cons (.var 4) .nil))) (.cons (.call n_number_of_row (.cons (.var 16) .nil)) (.cons (.call n_row_by (.cons (.var 3) (.cons (.var 5) .nil))) .nil))))))) (.cons (.ite (.not (.call n__law_alike (.cons (.var 7) (.cons (.new (.disp (.cons (.var 4) (.cons (.var 16) (.cons (.var 5) (.cons (.var 16) .nil)))))) .nil)))) (.cons (.ret (.lit (.bool false))) .nil) .nil) (.cons (.assign (.v 8) (.cmp .eq (.new (.comp (.var 12) (.v 12) (.range1 (.var 3)) (.cons (.cmp .gt (.idx (.var 16) (.var 12)) (.idx (.var 17) (.var 12))) .nil))) (.new (.disp .nil)))) (.cons (.assign (.v 9) (.fl .tuple (.l (.comp (.var 12) (.v 12) (.range1 (.var 3)) (.cons (.cmp .ne (.idx (.var 16) (.var 12)) (.idx (.var 17) (.var 12))) .nil))))) (.cons (.ite (.not (.call n__law_alike (.cons (.new (.disp (.cons (.call n_is_under (.cons (.var 16) (.cons (.var 17) .nil))) (.cons (.call n_unlike_columns (.cons (.var 16) (.cons (.var 17) .nil))) .nil)))) (.cons (.new (.disp (.cons (.var 8) (.cons (.var 9) .nil)))) .nil)))) (.cons (.ret (.lit (.bool false))) .nil) .nil) (.cons (.assign (.v 10) (.bin .add (.lit (.int 1)) (.call n__law_take (.cons (.var 1) (.cons (.lit (.int 5)) .nil))))) (.cons (.assign (.v 11) (.call n__law_rows (.cons (.var 10) .nil))) (.cons (.ite (.not (.call n__law_alike (.cons (.call n_all_rows (.cons (.var 10) .nil)) (.cons (.fl .tuple (.e (.var 11))) .nil)))) (.cons (.ret (.lit (.bool false))) .nil) .nil) (.cons (.assign (.v 12) (.call n__law_take (.cons (.var 1) (.cons (.f1 .len (.var 11)) .nil)))) (.cons (.ite (.not (.call n__law_alike (.cons (.new (.disp (.cons (.call n_row_by (.cons (.var 10) (.cons (.var 12) .nil))) (.cons (.call n_number_of_row (.cons (.idx (.var 11) (.var 12)) .nil)) .nil)))) (.cons (.new (.disp (.cons (.idx (.var 11) (.var 12)) (.cons (.var 12) .nil)))) .nil)))) (.cons (.ret (.lit (.bool false))) .nil) .nil) (.cons (.assign (.v 13) (.call n__law_lot (.cons (.var 1) (.cons (.var 3) .nil)))) (.cons (.assign (.v 14) (.fl .tuple (.l (.comp (.f1 .int (.cmp .inn (.var 12) (.var 13))) (.v 12) (.range1 (.var 3)) .nil)))) (.cons (.ite (.not (.call n__law_alike (.cons (.new (.disp (.cons (.call n_row_of (.cons (.var 3) (.cons (.var 13) .nil))) (.cons (.call n_ones_of (.cons (.var 14) .nil)) .nil)))) (.cons (.new (.disp (.cons (.var 14) (.cons (.var 13) .nil)))) .nil)))) (.cons (.ret (.lit (.bool false))) .nil) .nil) (.cons (.assign (.v 15) (.new (.disp (.cons (.lam 0) .nil)))) (.cons (.expr (.meth .append (.var 15) (.cons (.lam 1) .nil))) (.cons (.expr (.meth .append (.var 15) (.cons (.lam 2) .nil))) (.cons (.expr (.meth .append (.var 15) (.cons (.lam 3) .nil))) (.cons (.expr (.meth .append (.var 15) (.cons (.lam 4) .nil))) (.cons (.expr (.meth .append (.var 15) (.cons (.lam 5) .nil))) (.cons (.expr (.meth .append (.var 15) (.cons (.lam 6) .nil))) (.cons (.expr (.meth .append (.var 15) (.cons (.lam 7) .nil))) (.cons (.ite (.cmp .ne (.new (.acts 15 c_Nothing)) (.new (.disp .nil))) (.cons (.ret (.lit (.bool false))) .nil) .nil) .nil)))))))))))))))))))))))))))) (.cons (.ret (.lit (.bool true))) .nil)))
def f_law : Fd := ⟨(Str.ofString "law"), 1, [(Str.ofString "script"), (Str.ofString "bag"), (Str.ofString "lap"), (Str.ofString "many"), (Str.ofString "ones"), (Str.ofString "number"), (Str.ofString "bit"), (Str.ofString "looked"), (Str.ofString "under"), (Str.ofString "unlike"), (Str.ofString "few"), (Str.ofString "rows"), (Str.ofString "k"), (Str.ofString "lot"), (Str.ofString "row"), (Str.ofString "acts"), (Str.ofString "one"), (Str.ofString "other"), (Str.ofString "n"), (Str.ofString "act")], true, .cons .brk .nil⟩
def con : List (Str × D) := [((Str.ofString "MOST_COLUMNS"), (.int 12))]
def cls : List Str := [(Str.ofString "ShapeError"), (Str.ofString "Nothing")]
def blt : List Str := [(Str.ofString "isinstance"), (Str.ofString "int"), (Str.ofString "bool"), (Str.ofString "all"), (Str.ofString "zip"), (Str.ofString "tuple"), (Str.ofString "enumerate"), (Str.ofString "range"), (Str.ofString "abs"), (Str.ofString "repr"), (Str.ofString "len")]
def ask : List (Nat × Nat) := [(20, 1)]
def sub (a b : Nat) : Bool := match a, b with
  | 0, 0 => true
  | 1, 1 => true
  | 1, 0 => true
  | _, _ => false
def pg : Pg := ⟨[f__wall, f_is_integer, f_is_count, f_are_rising, f_is_tuple_of, f_is_lot, f_ones_of, f_row_of, f_number_of_row, f_made_row, f_power_of_two, f_row_by, f_all_rows, f_is_under, f_unlike_columns, f__law_bag, f__law_take, f__law_alike, f__law_rows, f__law_lot, f__law_is_nothing, f_law], con, cls, blt, ask, [(.call n_row_of (.cons (.var 3) (.cons (.tup (.cons (.var 3) .nil)) .nil))),
  (.call n_row_of (.cons (.var 3) (.cons (.lit .none) .nil))),
  (.call n_row_of (.cons (.var 3) (.cons (.tup (.cons (.lit (.int 0)) (.cons (.lit (.int 0)) .nil))) .nil))),
  (.call n_row_by (.cons (.var 3) (.cons (.lit (.int 512)) .nil))),
  (.call n_row_by (.cons (.var 3) (.cons (.neg (.lit (.int 1))) .nil))),
  (.call n_all_rows (.cons (.lit (.int 0)) .nil)),
  (.call n_all_rows (.cons (.lit (.int 13)) .nil)),
  (.call n_row_by (.cons (.var 3) (.cons (.lit (.bool true)) .nil)))], sub, 1000000⟩
theorem p__wall : pg.fns[n__wall]? = some f__wall := rfl
theorem p_is_integer : pg.fns[n_is_integer]? = some f_is_integer := rfl
theorem p_is_count : pg.fns[n_is_count]? = some f_is_count := rfl
theorem p_are_rising : pg.fns[n_are_rising]? = some f_are_rising := rfl
theorem p_is_tuple_of : pg.fns[n_is_tuple_of]? = some f_is_tuple_of := rfl
theorem p_is_lot : pg.fns[n_is_lot]? = some f_is_lot := rfl
theorem p_ones_of : pg.fns[n_ones_of]? = some f_ones_of := rfl
theorem p_row_of : pg.fns[n_row_of]? = some f_row_of := rfl
theorem p_number_of_row : pg.fns[n_number_of_row]? = some f_number_of_row := rfl
theorem p_made_row : pg.fns[n_made_row]? = some f_made_row := rfl
theorem p_power_of_two : pg.fns[n_power_of_two]? = some f_power_of_two := rfl
theorem p_row_by : pg.fns[n_row_by]? = some f_row_by := rfl
theorem p_all_rows : pg.fns[n_all_rows]? = some f_all_rows := rfl
theorem p_is_under : pg.fns[n_is_under]? = some f_is_under := rfl
theorem p_unlike_columns : pg.fns[n_unlike_columns]? = some f_unlike_columns := rfl
theorem p__law_bag : pg.fns[n__law_bag]? = some f__law_bag := rfl
theorem p__law_take : pg.fns[n__law_take]? = some f__law_take := rfl
theorem p__law_alike : pg.fns[n__law_alike]? = some f__law_alike := rfl
theorem p__law_rows : pg.fns[n__law_rows]? = some f__law_rows := rfl
theorem p__law_lot : pg.fns[n__law_lot]? = some f__law_lot := rfl
theorem p__law_is_nothing : pg.fns[n__law_is_nothing]? = some f__law_is_nothing := rfl
theorem p_law : pg.fns[n_law]? = some f_law := rfl
theorem q_MOST_COLUMNS : pg.con[g_MOST_COLUMNS]? = some ((Str.ofString "MOST_COLUMNS"), (.int 12)) := rfl
end K01
end
section
set_option maxHeartbeats 400000
namespace K01
open PySem MI
theorem c_is_integer {n : Nat} {h : Hs} {d : D} (hn : 3 ≤ n) (hd : plainD d = true) : callF pg n 0 n_is_integer [d] h = .ok (.bool (isIntD d)) h := by
  rw [callF_go hn p_is_integer rfl]
  cases d <;> simp [plainD] at hd <;> simp [f_is_integer, b_is_integer, evSs, evS, evE, evB, Ty.is, truthD, isIntD]
theorem c_is_count {n : Nat} {h : Hs} {d : D} (hn : 4 ≤ n) (hd : plainD d = true) : callF pg n 0 n_is_count [d] h = .ok (.bool (isCountD d)) h := by
  rw [callF_go (by omega) p_is_count rfl]
  have e := c_is_integer (n := n - 1) (h := h) (by omega) hd
  cases d <;> simp [plainD] at hd <;> simp [f_is_count, b_is_count, evSs, evS, evE, evEs, evB, e, truthD, isIntD, isCountD]
theorem c_is_tuple_of {n m : Nat} {h : Hs} {xs : List D} (p : D → Bool) (hn : 4 ≤ n) (hp : ∀ x ∈ xs, callF pg (n - 1) 0 m [x] h = .ok (.bool (p x)) h) :
    callF pg n 0 n_is_tuple_of [.tup xs, .fn m] h = .ok (.bool (xs.all p)) h := by
  rw [callF_go (by omega) p_is_tuple_of rfl]
  simp [f_is_tuple_of, b_is_tuple_of, evSs, evS, evE, evB, evA, evL, evI, Ty.is, truthD, walkD, Tg.slots]
  rw [loopC_mapI (φ := fun x => .bool (p x)) (by simp)]
  · simp [FL.run, Function.comp_def]
  · intro x hx
    simp [Tg.bind, wipeE, evC, evE, evEs, hp x hx]
theorem c_is_tuple_of_no {n m : Nat} {h : Hs} {d : D} (hn : 4 ≤ n) (hd : plainD d = true) (ht : ∀ xs, d ≠ .tup xs) :
    callF pg n 0 n_is_tuple_of [d, .fn m] h = .ok (.bool false) h := by
  rw [callF_go (by omega) p_is_tuple_of rfl]
  cases d <;> first
    | (simp [plainD] at hd; done)
    | (exact absurd rfl (ht _))
    | simp [f_is_tuple_of, b_is_tuple_of, evSs, evS, evE, evB, evA, evL, evI, Ty.is, truthD, walkD, Tg.slots]
theorem c_are_rising {n : Nat} {h : Hs} {xs : List Int} (hn : 3 ≤ n) : callF pg n 0 n_are_rising [dI xs] h = .ok (.bool (risingI xs)) h := by
  rw [callF_go (by omega) p_are_rising rfl]
  have cf := cut_from (xs.map D.int) 1 (by omega)
  have z := zipD_map (f := D.int) (g := D.int) xs (xs.drop 1)
  simp [f_are_rising, b_are_rising, evSs, evS, evE, evO, evA, evL, evI, Tg.slots, Tg.slotss, slD] at cf z ⊢
  simp [cf, zipO, z]
  rw [loopC_map (φ := fun p => .bool (decide (p.1 < p.2))) (by simp)]
  · simp [FL.run, risingI, Function.comp_def]
  · intro x hx
    simp [Tg.bind, Tg.binds, unpk, wipeE, evC, evE, evEs]
theorem c_is_lot {n : Nat} {h : Hs} {xs : List Int} {many : Int} (hn : 6 ≤ n) : callF pg n 0 n_is_lot [dI xs, .int many] h = .ok (.bool (lotI xs many)) h := by
  refine callF_ret (by omega) p_is_lot rfl rfl ?_
  rw [evE_bop]
  refine evB_and ?_ fun _ => evB_and ?_ fun _ => ?_
  · have e1 := c_is_tuple_of (n := n - 1) (m := n_is_count) (h := h) (xs := xs.map D.int) isCountD (by omega) (fun x hx => c_is_count (by omega) (by
      obtain ⟨y, _, rfl⟩ := List.mem_map.mp hx
      rfl))
    simp [f_is_lot, evE, evEs, e1, Function.comp_def, isCountD]
  · simp [f_is_lot, evE, evEs, c_are_rising (n := n - 1) (h := h) (xs := xs) (by omega)]
  · simp [f_is_lot, evE, evEs, evB, evA, evL, evI, walkD, Tg.slots]
    rw [loopC_map (φ := fun x => .bool (decide (x < many))) (by simp)]
    · simp [FL.run]
    · intro x hx
      simp [Tg.bind, wipeE, evC, evE]
theorem c_is_lot_no {n : Nat} {h : Hs} {d : D} {many : Int} (hn : 6 ≤ n) (hd : plainD d = true) (ht : ∀ xs, d ≠ .tup xs) : callF pg n 0 n_is_lot [d, .int many] h = .ok (.bool false) h := by
  refine callF_ret (by omega) p_is_lot rfl rfl ?_
  rw [evE_bop]
  refine evB_and (p := false) (q := false) ?_ fun z => by cases z
  simp [f_is_lot, evE, evEs, c_is_tuple_of_no (n := n - 1) (m := n_is_count) (h := h) (by omega) hd ht]
theorem c_ones_of {n : Nat} {h : Hs} {row : List Int} (hn : 3 ≤ n) : callF pg n 0 n_ones_of [dI row] h = .ok (dI (onesI row)) h := by
  refine callF_ret hn p_ones_of rfl rfl ?_
  simp [f_ones_of, evE, evA, evL, evI, Tg.slots, Tg.slotss, seqO, enumD_map]
  rw [loopC_flt (φ := fun p => .int p.2) (p := fun p => decide (p.1 = 1)) (by simp)]
  · have z := zipIdx_flt (fun b : Int => decide (b = 1)) row 0
    simp [FL.run, onesI] at z ⊢
    rw [← z]
    simp
  · intro x hx
    by_cases hx1 : x.1 = 1 <;> simp [Tg.bind, Tg.binds, unpk, wipeE, evC, evE, evEs, tst, eqvD, pyD, deep, truthD, hx1, PyData.eqv]
theorem c_row_of {n : Nat} {h : Hs} {ones : List Int} {many : Int} (hn : 7 ≤ n) (h0 : 0 ≤ many) (h1 : many ≤ 1000000) : callF pg n 0 n_row_of [.int many, dI ones] h = if lotI ones many then .ok (dI (rowI many.toNat ones)) h else .exc ⟨c_Nothing, []⟩ h := by
  rw [callF_go (by omega) p_row_of rfl]
  have e1 := c_is_lot (n := n - 1) (h := h) (xs := ones) (many := many) (by omega)
  cases hl : lotI ones many with
  | false => simp [f_row_of, b_row_of, evSs, evS, evE, evEs, e1, hl, tst, truthD]
  | true =>
    simp [f_row_of, b_row_of, evSs, evS, evE, evEs, evA, evL, evI, e1, hl, tst, truthD, range1_ok h0 h1, Tg.slots]
    rw [loopC_map (φ := fun k : Nat => .int (if ((k : Nat) : Int) ∈ ones then 1 else 0)) (by simp)]
    · simp [FL.run, rowI, Function.comp_def]
    · intro x hx
      by_cases hm : (x : Int) ∈ ones <;> simp [Tg.bind, Tg.binds, unpk, wipeE, evC, evE, evEs, hm]
theorem c_row_of_no {n : Nat} {h : Hs} {d : D} {many : Int} (hn : 7 ≤ n) (hd : plainD d = true) (ht : ∀ xs, d ≠ .tup xs) : callF pg n 0 n_row_of [.int many, d] h = .exc ⟨c_Nothing, []⟩ h := by
  rw [callF_go (by omega) p_row_of rfl]
  have e1 := c_is_lot_no (n := n - 1) (h := h) (d := d) (many := many) (by omega) hd ht
  simp [f_row_of, b_row_of, evSs, evS, evE, evEs, e1, tst, truthD]
theorem c_number_of_row {n : Nat} {h : Hs} {row : List Int} (hn : 3 ≤ n) : callF pg n 0 n_number_of_row [dI row] h = .ok (.int (numI row)) h := by
  refine callF_rets hn p_number_of_row rfl (by simp) ?_
  refine ss_as (h1 := h) (d := .int 0) (by simp [evE]) (by simp [Tg.bind]; rfl) ?_
  refine ss_for (g := []) (ψ := D.int) (xs := row) (S := fun (a : Int) env h' => ∃ x, env = [some (dI row), some (.int a), x] ∧ h' = h) (step := fun a b => 2 * a + b) (b := 0) (by simp [evI, evE, walkD]) (fun _ _ _ _ => rfl) ?_ ⟨none, rfl, rfl⟩ ?_
  · rintro x hx b env h' ⟨y, rfl, rfl⟩
    refine ⟨_, by simp [Tg.bind]; rfl, ?_⟩
    exact .nxE (by simp [evSs, evS, evE, Tg.bind]; first | rfl | exact ⟨rfl, rfl⟩) ⟨_, rfl, rfl⟩
  · rintro env h' ⟨y, rfl, rfl⟩
    exact rets0 (by simp [evE, numI])
theorem c_made_row {n : Nat} {h : Hs} {many num : Int} (hn : 3 ≤ n) (h0 : 0 ≤ many) (h1 : many ≤ 1000000) : callF pg n 0 n_made_row [.int many, .int num] h = .ok (dI (madeI many.toNat num)) h := by
  refine callF_rets hn p_made_row rfl (by simp) ?_
  refine ss_as (h1 := h ++ [.list []]) (d := .ref h.length) (by simp [evE, evL, evEs, newC, gc_ref]) (by simp [Tg.bind]; rfl) ?_
  refine ss_forI (g := []) (ψ := fun k : Nat => D.int (k : Int)) (xs := List.range many.toNat) (S := fun i (b : List Int × Int) env h' => b.1.length = i ∧ ∃ x, env = [some (.int many), some (.int b.2), some (.ref h.length), x] ∧ h' = h ++ [.list (b.1.map .int)])
    (step := fun b _ => (b.1 ++ [b.2 % 2], b.2 / 2)) (b := ([], num)) (by simp [evI, evE, range1_ok h0 h1]) (fun _ _ _ _ _ => rfl) ?_ ⟨rfl, none, rfl, rfl⟩ ?_
  · rintro i x hx ⟨l, nn⟩ env h' ⟨hl, y, rfl, rfl⟩
    have hi : i < many.toNat := by
      have := (List.getElem?_eq_some_iff.mp hx).1
      simpa using this
    have hz : l.length < sizeLine := by
      rw [sizeLine_eq]
      simp at hl
      omega
    refine ⟨_, by simp [Tg.bind]; rfl, ?_⟩
    refine .nxE (by simp [evSs, evS, evE, evEs, Tg.bind, Mt.recv, Mt.run, hz]; first | rfl | exact ⟨rfl, rfl⟩) ?_
    exact ⟨by simp at hl ⊢; exact hl, _, rfl, by simp⟩
  · rintro env h' ⟨hl, y, rfl, rfl⟩
    refine ss_ret (h1 := h ++ ([.list ((digI many.toNat num).map D.int), .list (((digI many.toNat num).map D.int).reverse)] : Hs)) (P := Rets h _) (d := dI (madeI many.toNat num)) ?_ ⟨_, rfl⟩
    have z := foldl_dig (List.range many.toNat) [] num
    simp at z
    simp [evE, evA, revD, newC, seqD, FL.run, z, madeI]
theorem c_power_of_two {n : Nat} {h : Hs} {many : Int} (hn : 3 ≤ n) (h0 : 0 ≤ many) (h1 : many ≤ 1000000) : callF pg n 0 n_power_of_two [.int many] h = .ok (.int (2 ^ many.toNat)) h := by
  refine callF_rets hn p_power_of_two rfl (by simp) ?_
  refine ss_as (h1 := h) (d := .int 1) (by simp [evE]) (by simp [Tg.bind]; rfl) ?_
  refine ss_for (g := []) (ψ := fun k : Nat => D.int (k : Int)) (xs := List.range many.toNat) (S := fun (a : Int) env h' => ∃ x, env = [some (.int many), some (.int a), x] ∧ h' = h) (step := fun a _ => a * 2) (b := 1) (by simp [evI, evE, range1_ok h0 h1]) (fun _ _ _ _ => rfl) ?_ ⟨none, rfl, rfl⟩ ?_
  · rintro x hx b env h' ⟨y, rfl, rfl⟩
    refine ⟨_, by simp [Tg.bind]; rfl, ?_⟩
    exact .nxE (by simp [evSs, evS, evE, Tg.bind]; first | rfl | exact ⟨rfl, rfl⟩) ⟨_, rfl, rfl⟩
  · rintro env h' ⟨y, rfl, rfl⟩
    exact rets0 (by simp [evE, foldl_pow])
theorem c_row_by {n : Nat} {h : Hs} {many num : Int} (hn : 5 ≤ n) (h0 : 0 ≤ many) (h1 : many ≤ 1000000) : callF pg n 0 n_row_by [.int many, .int num] h = if 0 ≤ num ∧ num < 2 ^ many.toNat then .ok (dI (madeI many.toNat num)) h else .exc ⟨c_Nothing, []⟩ h := by
  rw [callF_go (by omega) p_row_by rfl]
  have e1 := c_is_count (n := n - 1) (h := h) (d := .int num) (by omega) rfl
  have e2 := c_power_of_two (n := n - 1) (h := h) (by omega) h0 h1
  have e3 := c_made_row (n := n - 1) (h := h) (num := num) (by omega) h0 h1
  by_cases c1 : 0 ≤ num
  · by_cases c2 : num < 2 ^ many.toNat
    · have c3 : ¬ 2 ^ many.toNat ≤ num := by omega
      simp [f_row_by, b_row_by, evSs, evS, evE, evEs, evB, e1, e2, e3, isCountD, c1, c2, c3, tst, truthD]
    · have c3 : 2 ^ many.toNat ≤ num := by omega
      simp [f_row_by, b_row_by, evSs, evS, evE, evEs, evB, e1, e2, e3, isCountD, c1, c2, c3, tst, truthD]
  · simp [f_row_by, b_row_by, evSs, evS, evE, evEs, evB, e1, e2, e3, isCountD, c1, tst, truthD]
theorem c_row_by_no {n : Nat} {h : Hs} {many : Int} {d : D} (hn : 5 ≤ n) (hd : plainD d = true) (hc : isCountD d = false) : callF pg n 0 n_row_by [.int many, d] h = .exc ⟨c_Nothing, []⟩ h := by
  rw [callF_go (by omega) p_row_by rfl]
  have e1 := c_is_count (n := n - 1) (h := h) (d := d) (by omega) hd
  simp [f_row_by, b_row_by, evSs, evS, evE, evEs, evB, e1, hc, tst, truthD]
theorem ar_b1 {n : Nat} {h : Hs} {many v : Int} {w : Nat} (hn : 5 ≤ n) (h1 : 0 ≤ many) (h2 : many ≤ 12) (e2 : callF pg (n - 1) 0 n_power_of_two [.int many] h = .ok (.int v) h) (r : range1 (.int v) = some ((List.range w).map fun k : Nat => .int (k : Int))) :
    evE (E.fl FL.tuple (It.l (L.comp (E.call n_made_row (Es.cons (E.var 0) (Es.cons (E.var 1) Es.nil))) (Tg.v 1) (It.range1 (E.call n_power_of_two (Es.cons (E.var 0) Es.nil))) Es.nil))) (pg.ct (callF pg (n - 1))) [some (.int many), none] h = .ok (.tup ((List.range w).map fun k : Nat => dI (madeI many.toNat (k : Int)))) h := by
  have e3 : evI (It.range1 (E.call n_power_of_two (Es.cons (E.var 0) Es.nil))) (pg.ct (callF pg (n - 1))) [some (.int many), none] h = .ok ((List.range w).map fun k : Nat => .int (k : Int), []) h := by
    rw [evI]
    simp [evE, evEs, e2, r]
  rw [evE, evA, evL, e3]
  simp [Tg.slots]
  rw [loopC_map (φ := fun k : Nat => dI (madeI many.toNat (k : Int))) (by simp)]
  · simp [FL.run]
  · intro x hx
    simp [Tg.bind, wipeE, evC, evE, evEs, c_made_row (n := n - 1) (h := h) (num := (x : Int)) (by omega) (show (0 : Int) ≤ many by omega) (by omega)]
theorem c_all_rows {n : Nat} {h : Hs} {many : Int} (hn : 5 ≤ n) (h0 : 1 ≤ many) (h1 : many ≤ 12) : callF pg n 0 n_all_rows [.int many] h = .ok (.tup ((rowsI many.toNat).map dI)) h := by
  have e1 := c_is_count (n := n - 1) (h := h) (d := .int many) (by omega) rfl
  obtain ⟨z0, z, zn⟩ := pow_le20 (m := many.toNat) (by omega)
  have r := range1_ok z0 z
  rw [zn] at r
  have e := ar_b1 hn (by omega) h1 (c_power_of_two (n := n - 1) (h := h) (many := many) (by omega) (by omega) (by omega)) r
  have er : (rowsI many.toNat).map dI = (List.range (2 ^ many.toNat)).map fun k : Nat => dI (madeI many.toNat (k : Int)) := by rw [rowsI, List.map_map]; rfl
  rw [er]
  refine callF_rets (by omega) p_all_rows rfl (by simp) ?_
  refine ss_if (p := false) ?_ (fun z => by cases z) (fun _ => ?_)
  · have c0 : 0 ≤ many := by omega
    simp [evE, evEs, evB, e1, isCountD, c0, h0, h1, q_MOST_COLUMNS]
  · rw [nil_next]
    exact rets0 e
theorem c_all_rows_no {n : Nat} {h : Hs} {many : Int} (hn : 5 ≤ n) (h0 : ¬ (1 ≤ many ∧ many ≤ 12)) : callF pg n 0 n_all_rows [.int many] h = .exc ⟨c_Nothing, []⟩ h := by
  have e1 := c_is_count (n := n - 1) (h := h) (d := .int many) (by omega) rfl
  refine callF_rais (by omega) p_all_rows rfl (by simp) ?_
  refine ss_if (p := true) ?_ (fun _ => ?_) (fun z => by cases z)
  · by_cases c0 : 0 ≤ many
    · by_cases c1 : 1 ≤ many
      · have c2 : ¬ many ≤ 12 := by omega
        simp [evE, evEs, evB, e1, isCountD, c0, c1, c2, q_MOST_COLUMNS]
      · simp [evE, evEs, evB, e1, isCountD, c0, c1, q_MOST_COLUMNS]
    · simp [evE, evEs, evB, e1, isCountD, c0]
  · exact ⟨_, [], by simp [evSs, evS]; rfl⟩
theorem c_is_under {n : Nat} {h : Hs} {one other : List Int} (hn : 3 ≤ n) : callF pg n 0 n_is_under [dI one, dI other] h = .ok (.bool (underI one other)) h := by
  refine callF_ret hn p_is_under rfl rfl ?_
  simp [f_is_under, evE, evA, evL, evI, Tg.slots, Tg.slotss, zipO, zipD_map]
  rw [loopC_map (φ := fun p : Int × Int => .bool (decide (p.1 ≤ p.2))) (by simp)]
  · simp [FL.run, underI]
  · intro x hx
    simp [Tg.bind, Tg.binds, unpk, wipeE, evC, evE]
theorem c_unlike_columns {n : Nat} {h : Hs} {one other : List Int} (hn : 3 ≤ n) : callF pg n 0 n_unlike_columns [dI one, dI other] h = .ok (dI (unlikeI one other)) h := by
  refine callF_ret hn p_unlike_columns rfl rfl ?_
  simp [f_unlike_columns, evE, evA, evL, evI, Tg.slots, Tg.slotss, zipT, zipD_map, enumD_map]
  rw [loopC_flt (φ := fun p : (Int × Int) × Nat => .int p.2) (p := fun p => decide (p.1.1 ≠ p.1.2)) (by simp)]
  · simp [FL.run, unlikeI]
  · intro x hx
    by_cases hx1 : x.1.1 = x.1.2 <;> simp [Tg.bind, Tg.binds, unpk, wipeE, evC, evE, hx1]
end K01
end
section
set_option maxHeartbeats 400000
namespace K01
open PySem MI
/-- the law's heap: the script, a copy of it, the bag's cells, the bag -/
def bg (ns cells : List Int) (e st pos : Int) (rest : Hs) : Hs := .frz (ns.map .int) :: .list ((ns.take 63).map .int) :: .list (cells.map .int) :: .list [.int e, .int st, .int pos, .ref 2] :: rest
structure Bok (cells : List Int) (e st pos : Int) : Prop where
  e0 : 0 ≤ e
  s0 : 0 ≤ st
  s1 : st < 2147483647
  p0 : 0 ≤ pos
  len : cells.length ≤ 63
  nn : ∀ x ∈ cells, 0 ≤ x
theorem c_law_bag {n : Nat} {ns : List Int} (hn : 3 ≤ n) : ∃ cells, callF pg n 0 n__law_bag [.ref 0] [.frz (ns.map .int)] = .ok (.ref 3) (bg ns cells 0 1234567891 0 []) ∧ Bok cells 0 1234567891 0 := by
  refine ⟨(ns.take 63).map fun x => if x < 0 then -x else x, ?_, ⟨by omega, by omega, by omega, by omega, by simp; omega, fun x hx => ?_⟩⟩
  · rw [callF_go hn p__law_bag rfl]
    have cf := cut_to (ns.map D.int) 63 (by omega)
    simp at cf
    simp [f__law_bag, b__law_bag, evSs, evS, evE, evEs, evL, evI, evO, slD, cf, newC, walkD, Tg.slots]
    simp only [← List.map_take]
    rw [loopC_map (φ := fun x : Int => .int (if x < 0 then -x else x))]
    · simp [gcX_ref, bg, ← List.map_take]
    · simp [Gd.ok, gd1]
    · intro x hx
      simp [Tg.bind, wipeE, evC, evE]
  · obtain ⟨y, hy, rfl⟩ := List.mem_map.mp hx
    split <;> omega
/-- the figure that the bag's cells give -/
def cellI (cells : List Int) (pos : Int) : Int := (cells.drop pos.toNat).headD 0
section
variable {ns cells : List Int} {e st pos : Int} {rest z : Hs} {c : Ct} {env : MI.Env}
@[simp] theorem bg_app : bg ns cells e st pos rest ++ z = bg ns cells e st pos (rest ++ z) := rfl
@[simp] theorem bg_0 : idxD (bg ns cells e st pos rest) (.ref 3) (.int 0) = some (.int e) := rfl
@[simp] theorem bg_1 : idxD (bg ns cells e st pos rest) (.ref 3) (.int 1) = some (.int st) := rfl
@[simp] theorem bg_2 : idxD (bg ns cells e st pos rest) (.ref 3) (.int 2) = some (.int pos) := rfl
@[simp] theorem bg_3 : idxD (bg ns cells e st pos rest) (.ref 3) (.int 3) = some (.ref 2) := rfl
@[simp] theorem bg_g : gidxD (bg ns cells e st pos rest) (.ref 3) (.int 2) = some (.int pos) := rfl
@[simp] theorem bg_s0 {x : Int} : setD (.ref 3) (.int 0) (.int x) (bg ns cells e st pos rest) = some (bg ns cells x st pos rest) := rfl
@[simp] theorem bg_s1 {x : Int} : setD (.ref 3) (.int 1) (.int x) (bg ns cells e st pos rest) = some (bg ns cells e x pos rest) := rfl
@[simp] theorem bg_s2 {x : Int} : setD (.ref 3) (.int 2) (.int x) (bg ns cells e st pos rest) = some (bg ns cells e st x rest) := rfl
theorem bg_sl (hp : 0 ≤ pos) {e' st' pos' : Int} : slD (.ref 2) (some pos) none (bg ns cells e' st' pos' rest) = .ok (.ref (rest.length + 4)) (bg ns cells e' st' pos' (rest ++ [.list ((cells.drop pos.toNat).map .int)])) := by
  have cf := cut_from (cells.map D.int) pos hp
  show newC (.list (cut (cells.map D.int) _ _)) _ = _
  rw [cf]
  simp [newC, bg]
theorem bg_gc {d : D} (hd : d.flat = true) : gc (bg ns cells e st pos rest) (.ok d (bg ns cells e st pos (rest ++ z))) = .ok d (bg ns cells e st pos rest) := by
  rw [← bg_app]
  exact gc_ext hd
theorem bg_new {o : MO} : newC o (bg ns cells e st pos rest) = .ok (.ref (rest.length + 4)) (bg ns cells e st pos (rest ++ [o])) := by
  simp [newC, bg]
theorem bg_at {o : MO} : (bg ns cells e st pos (rest ++ o :: z))[rest.length + 4]? = some o := by
  simp [bg]
theorem cell_run (o : Bok cells e st pos) (he : env[0]? = some (some (.ref 3))) :
    gc (bg ns cells e st pos rest) (evE (.idx (.bin .add (.sl (.idx (.var 0) (.lit (.int 3))) (.some (.idx (.var 0) (.lit (.int 2)))) .none) (.new (.disp (.cons (.lit (.int 0)) .nil)))) (.lit (.int 0))) c env (bg ns cells e st pos rest)) = .ok (.int (cellI cells pos)) (bg ns cells e st pos rest) := by
  have l1 : (cells.drop pos.toNat).length + 1 ≤ sizeLine := by
    rw [sizeLine_eq]
    have := o.len
    simp
    omega
  simp at l1
  have a1 : ∀ (x y : MO), (bg ns cells e st pos (rest ++ [x, y]))[rest.length + 4]? = some x := fun x y => bg_at
  have a2 : ∀ (x y : MO), (bg ns cells e st pos (rest ++ [x, y]))[rest.length + 1 + 4]? = some y := fun x y => by
    have := bg_at (ns := ns) (cells := cells) (e := e) (st := st) (pos := pos) (rest := rest ++ [x]) (o := y) (z := [])
    simpa using this
  have a3 : ∀ (x y w : MO), (bg ns cells e st pos (rest ++ [x, y, w]))[rest.length + 1 + 1 + 4]? = some w := fun x y w => by
    have := bg_at (ns := ns) (cells := cells) (e := e) (st := st) (pos := pos) (rest := rest ++ [x, y]) (o := w) (z := [])
    simpa using this
  simp [evE, evEs, evL, evO, he, bg_sl o.p0, bg_new, Bop.run, a1, a2, l1]
  have key : (List.drop pos.toNat (List.map D.int cells) ++ [D.int 0])[0]? = some (.int (cellI cells pos)) := by
    rw [← List.map_drop]
    unfold cellI
    cases cells.drop pos.toNat <;> rfl
  have i0 : ∀ x y, idxD (bg ns cells e st pos (rest ++ [x, y, .list (List.drop pos.toNat (List.map D.int cells) ++ [D.int 0])])) (.ref (rest.length + 1 + 1 + 4)) (.int 0) = some (.int (cellI cells pos)) := fun x y => idx_list (k := 0) (a3 x y _) key
  simp only [i0, ofO_some]
  exact bg_gc (by simp)
theorem cellI_nn (o : Bok cells e st pos) : 0 ≤ cellI cells pos := by
  unfold cellI
  cases hc : cells.drop pos.toNat with
  | nil => simp
  | cons x xs => exact o.nn x (List.mem_of_mem_drop (hc ▸ List.mem_cons_self))
theorem c_law_take {n : Nat} {many : Int} (hn : 3 ≤ n) (o : Bok cells e st pos) (m0 : 0 < many) (m1 : many < 1073741824) :
    ∃ v e' st' pos', callF pg n 0 n__law_take [.ref 3, .int many] (bg ns cells e st pos rest) = .ok (.int v) (bg ns cells e' st' pos' rest) ∧ 0 ≤ v ∧ v < many ∧ Bok cells e' st' pos' := by
  have c0 := cellI_nn o
  -- behind the first part
  have tail : ∀ (e st pos : Int) (env : MI.Env) (ss : Ss), Bok cells e st pos → (∃ x2 x3 x4 x5 x6, env = [some (.ref 3), some (.int many), x2, x3, x4, x5, x6]) → ∃ v e' st' pos', evSs (Ss.cons (.ite (.cmp .gt (.idx (.var 0) (.lit (.int 0))) (.lit (.int 0))) (.cons (.assign (.v 6) (.bin .mod (.f1 .int (.idx (.var 0) (.lit (.int 0)))) (.var 1))) (.cons (.asub (.var 0) (.lit (.int 0)) (.bin .fdiv (.f1 .int (.idx (.var 0) (.lit (.int 0)))) (.var 1))) (.cons (.ret (.var 6)) .nil))) .nil) (.cons (.assign (.v 2) (.bin .mod (.f1 .int (.bin .mul (.bin .add (.idx (.var 0) (.lit (.int 1))) (.lit (.int 1))) (.lit (.int 39373)))) (.lit (.int 1000000007)))) (.cons (.assign (.v 3) (.bin .mod (.f1 .int (.bin .mul (.bin .mod (.f1 .int (.bin .mul (.var 2) (.var 2))) (.lit (.int 998244353))) (.lit (.int 30011)))) (.lit (.int 998244353)))) (.cons (.ret (.bin .mod (.f1 .int (.bin .fdiv (.var 3) (.lit (.int 7)))) (.var 1))) .nil)))) (pg.ct (callF pg (n - 1))) env (bg ns cells e st pos rest) = .ret (.int v) (bg ns cells e' st' pos' rest) ∧ 0 ≤ v ∧ v < many ∧ Bok cells e' st' pos' := by
    rintro e st pos env ss o ⟨x2, x3, x4, x5, x6, rfl⟩
    by_cases h0 : 0 < e
    · refine ⟨e % many, e / many, st, pos, ?_, Int.emod_nonneg _ (by omega), Int.emod_lt_of_pos _ m0, ⟨Int.ediv_nonneg o.e0 (by omega), o.s0, o.s1, o.p0, o.len, o.nn⟩⟩
      simp [evSs, evS, evE, h0, run_mod m0, run_fdiv m0 m1, Tg.bind]
    · have z1 : small64 ((st + 1) * 39373 % 1000000007) = true := by
        unfold small64
        have := Int.emod_nonneg ((st + 1) * 39373) (show (1000000007 : Int) ≠ 0 by omega)
        have := Int.emod_lt_of_pos ((st + 1) * 39373) (show (0 : Int) < 1000000007 by omega)
        simp
        omega
      refine ⟨_, e, st, pos, by simp [evSs, evS, evE, h0, run_mod m0, run_mulr (show small64 39373 = true by decide), run_mulr (show small64 30011 = true by decide), run_mod (show (0 : Int) < 1000000007 by omega), run_mod (show (0 : Int) < 998244353 by omega), run_fdiv (show (0 : Int) < 7 by omega) (by omega), run_mull z1, Tg.bind]; rfl, Int.emod_nonneg _ (by omega), Int.emod_lt_of_pos _ m0, o⟩
  have fin : ∀ {v e' st' pos' : Int} {r : RS}, r = .ret (.int v) (bg ns cells e' st' pos' rest) → gcX (bg ns cells e st pos rest) (endS r) = .ok (.int v) (bg ns cells e' st' pos' rest) := by
    rintro v e' st' pos' _ rfl
    exact gcX_same rfl
  rw [callF_go hn p__law_take rfl]
  by_cases h0 : e = 0
  · subst h0
    have h1 : ∃ e1 st1 x4 x5, evSs (.cons (.assign (.v 4) (.idx (.bin .add (.sl (.idx (.var 0) (.lit (.int 3))) (.some (.idx (.var 0) (.lit (.int 2)))) .none) (.new (.disp (.cons (.lit (.int 0)) .nil)))) (.lit (.int 0)))) (.cons (.augsub (.var 0) (.lit (.int 2)) .add (.lit (.int 1))) (.cons (.ite (.cmp .ge (.var 4) (.bin .pow (.lit (.int 10)) (.lit (.int 18)))) (.cons (.asub (.var 0) (.lit (.int 0)) (.var 4)) .nil) .nil) (.cons (.assign (.v 5) (.bin .add (.bin .add (.bin .mul (.idx (.var 0) (.lit (.int 1))) (.lit (.int 48271))) (.bin .mod (.f1 .int (.var 4)) (.lit (.int 2147483647)))) (.bin .mul (.lit (.int 7919)) (.idx (.var 0) (.lit (.int 2)))))) (.cons (.asub (.var 0) (.lit (.int 1)) (.bin .mod (.f1 .int (.var 5)) (.lit (.int 2147483647)))) .nil))))) (pg.ct (callF pg (n - 1))) [some (.ref 3), some (.int many), none, none, none, none, none] (bg ns cells 0 st pos rest) = .next [some (.ref 3), some (.int many), none, none, x4, x5, none] (bg ns cells e1 st1 (pos + 1) rest) ∧ Bok cells e1 st1 (pos + 1) := by
      have b : ∀ e1 x, 0 ≤ e1 → Bok cells e1 (x % 2147483647) (pos + 1) := fun e1 x he => ⟨he, Int.emod_nonneg _ (by omega), Int.emod_lt_of_pos _ (by omega), by have := o.p0; omega, o.len, o.nn⟩
      have pw : Bop.pow.run (.int 10) (.int 18) (bg ns cells 0 st (pos + 1) rest) = .ok (.int 1000000000000000000) (bg ns cells 0 st (pos + 1) rest) := by
        simp [Bop.run]
      by_cases big : 1000000000000000000 ≤ cellI cells pos
      · refine ⟨cellI cells pos, (st * 48271 + cellI cells pos % 2147483647 + 7919 * (pos + 1)) % 2147483647, some (.int (cellI cells pos)), some (.int (st * 48271 + cellI cells pos % 2147483647 + 7919 * (pos + 1))), ss_as (P := fun r => r = _) (cell_run o rfl) rfl ?_, b _ _ c0⟩
        simp [evSs, evS, evE, Tg.bind, pw, big, run_mulr (show small64 48271 = true by decide), run_mull (show small64 7919 = true by decide), run_mod (show (0 : Int) < 2147483647 by omega)]
      · refine ⟨0, (st * 48271 + cellI cells pos % 2147483647 + 7919 * (pos + 1)) % 2147483647, some (.int (cellI cells pos)), some (.int (st * 48271 + cellI cells pos % 2147483647 + 7919 * (pos + 1))), ss_as (P := fun r => r = _) (cell_run o rfl) rfl ?_, b _ _ (by omega)⟩
        simp [evSs, evS, evE, Tg.bind, pw, big, run_mulr (show small64 48271 = true by decide), run_mull (show small64 7919 = true by decide), run_mod (show (0 : Int) < 2147483647 by omega)]
    obtain ⟨e1, st1, x4, x5, h1, o1⟩ := h1
    obtain ⟨v, e', st', pos', q1, q2⟩ := tail e1 st1 (pos + 1) [some (.ref 3), some (.int many), none, none, x4, x5, none] .nil o1 ⟨_, _, _, _, _, rfl⟩
    refine ⟨v, e', st', pos', fin ?_, q2⟩
    rw [← q1]
    refine ss_if (P := fun r => r = _) (p := true) (by simp [evE]) (fun _ => ?_) (fun z => by cases z)
    show RS.next' (evSs _ _ [some (.ref 3), some (.int many), none, none, none, none, none] _) _ = _
    rw [h1, RS.next_next]
  · obtain ⟨v, e', st', pos', q1, q2⟩ := tail e st pos [some (.ref 3), some (.int many), none, none, none, none, none] .nil o ⟨_, _, _, _, _, rfl⟩
    refine ⟨v, e', st', pos', fin ?_, q2⟩
    rw [← q1]
    refine ss_if (P := fun r => r = _) (p := false) (by simp [evE, h0]) (fun z => by cases z) fun _ => ?_
    rw [nil_next]
    rfl
end
theorem c_law_alike {n : Nat} {h : Hs} {a b : D} {p : PyData} (hn : 3 ≤ n) (g : PGood h a p) (g' : PGood h b p) : callF pg n 0 n__law_alike [a, b] h = .ok (.bool true) h :=
  callF_ret hn p__law_alike rfl rfl (alike_run g g')
/-- the bag as it goes on -/
def Bagged (ns cells : List Int) (rest : Hs) (h : Hs) : Prop := ∃ e st pos, h = bg ns cells e st pos rest ∧ Bok cells e st pos
theorem c_law_take' {n : Nat} {many : Int} {ns cells : List Int} {rest h : Hs} (hn : 3 ≤ n) (o : Bagged ns cells rest h) (m0 : 0 < many) (m1 : many < 1073741824) :
    ∃ v h', callF pg n 0 n__law_take [.ref 3, .int many] h = .ok (.int v) h' ∧ 0 ≤ v ∧ v < many ∧ Bagged ns cells rest h' := by
  obtain ⟨e, st, pos, rfl, o⟩ := o
  obtain ⟨v, e', st', pos', q1, q2, q3, q4⟩ := c_law_take (ns := ns) (rest := rest) hn o m0 m1
  exact ⟨v, _, q1, q2, q3, e', st', pos', rfl, q4⟩
theorem Bagged.len {ns cells : List Int} {rest h h' : Hs} (a : Bagged ns cells rest h) (b : Bagged ns cells rest h') : h'.length = h.length := by
  obtain ⟨e, st, pos, rfl, o⟩ := a
  obtain ⟨e, st, pos, rfl, o⟩ := b
  rfl
theorem c_law_lot {n : Nat} {many : Int} {ns cells : List Int} {rest h : Hs} (hn : 4 ≤ n) (o : Bagged ns cells rest h) (m0 : 0 ≤ many) (m1 : many ≤ 1000000) :
    ∃ xs h', callF pg n 0 n__law_lot [.ref 3, .int many] h = .ok (dI xs) h' ∧ xs.Sublist ((List.range many.toNat).map fun k : Nat => (k : Int)) ∧ Bagged ns cells rest h' := by
  rw [callF_go (by omega) p__law_lot rfl]
  simp [f__law_lot, b__law_lot, evSs, evS, evE, evA, evL, evI, range1_ok m0 m1, Tg.slots]
  generalize hL : loopC _ _ _ _ = L
  obtain ⟨ys, h', rfl, sub, o'⟩ := loopC_invF_of hL o (fun x hx h o => by
    obtain ⟨k, _, rfl⟩ := List.mem_map.mp hx
    obtain ⟨v, h', q1, q2, q3, q4⟩ := c_law_take' (n := n - 1) (many := 2) (by omega) o (by omega) (by omega)
    refine ⟨decide (v = 0), h', ?_, q4⟩
    have ts : ∀ b : Bool, tst h (.ok (.bool b) h') = .ok b h' := fun b => tst_same (o.len q4)
    by_cases hv : v = 0 <;> simp [Tg.bind, wipeE, evC, evE, evEs, q1, ts, hv])
  obtain ⟨zs, sz, rfl⟩ := List.sublist_map_iff.mp sub
  refine ⟨zs.map fun k : Nat => (k : Int), h', ?_, sz.map _, o'⟩
  simp [FL.run]
  rw [gcX_same (o.len o')]
  simp [Function.comp_def]
theorem lawRows_len : ∀ m, (lawRows m).length = 2 ^ m
  | 0 => rfl
  | m + 1 => by
    have : ∀ xs : List (List Int), (xs.flatMap fun r => [r ++ [0], r ++ [1]]).length = xs.length * 2 := fun xs => by
      induction xs with
      | nil => rfl
      | cons x xs ih => simp [ih]; omega
    rw [lawRows, this, lawRows_len m, Nat.pow_succ]
theorem lawRows_row : ∀ m, ∀ r ∈ lawRows m, r.length = m
  | 0, r, h => by simp [lawRows] at h; simp [h]
  | m + 1, r, h => by
    simp only [lawRows, List.mem_flatMap] at h
    obtain ⟨s, hs, hr⟩ := h
    have := lawRows_row m s hs
    simp at hr
    rcases hr with rfl | rfl <;> simp [this]
theorem c_law_rows {n : Nat} {many : Int} {h : Hs} (hn : 3 ≤ n) (m0 : 0 ≤ many) (m1 : many ≤ 12) :
    ∃ z i, callF pg n 0 n__law_rows [.int many] h = .ok (.ref (h.length + i)) (h ++ z) ∧ z[i]? = some (.list ((lawRows many.toNat).map dI)) := by
  refine callF_retL hn p__law_rows rfl ?_
  refine ss_as (h1 := h ++ [.list [.tup []]]) (d := .ref h.length) (by simp [evE, evEs, evL, newC, gc_ref]) rfl ?_
  refine ss_forI (g := []) (ψ := fun k : Nat => D.int (k : Int)) (xs := List.range many.toNat) (S := fun i (_ : Unit) env h' => ∃ z j x2 x3 x4, env = [some (.int many), some (.ref (h.length + j)), x2, x3, x4] ∧ h' = h ++ z ∧ z[j]? = some (.list ((lawRows i).map dI)))
    (step := fun _ _ => ()) (b := ()) (by simp [evI, evE, range1_ok m0 (show many ≤ 1000000 by omega)]) (fun _ _ _ _ _ => rfl) ?_ ⟨[.list [.tup []]], 0, none, none, none, rfl, rfl, rfl⟩ ?_
  · rintro i x hx _ env _ ⟨z, j, x2, x3, x4, rfl, rfl, hz⟩
    have hi : i < many.toNat := by
      have := (List.getElem?_eq_some_iff.mp hx).1
      simpa using this
    refine ⟨_, rfl, ?_⟩
    have hj : j < z.length := (List.getElem?_eq_some_iff.mp hz).1
    refine ss_as (h1 := h ++ (z ++ [.list []])) (d := .ref (h.length + z.length)) (by simp [evE, evEs, evL, newC, gc_ref]) rfl ?_
    refine ss_forI (g := [(h.length + j, (lawRows i).map dI)]) (ψ := dI) (xs := lawRows i)
      (S := fun q (acc : List (List Int)) env h' => acc.length = 2 * q ∧ ∃ z' x4, env = [some (.int many), some (.ref (h.length + j)), some (.int (x : Int)), some (.ref (h.length + z.length)), x4] ∧ h' = h ++ z' ∧ z'[j]? = some (.list ((lawRows i).map dI)) ∧ z'[z.length]? = some (.list (acc.map dI)))
      (step := fun acc r => acc ++ [r ++ [0], r ++ [1]]) (b := []) ?_ ?_ ?_ ?_ ?_
    · have e0 : (h ++ (z ++ [MO.list []]))[h.length + j]? = some (.list ((lawRows i).map dI)) := by rw [app_get, List.getElem?_append_left hj, hz]
      rw [evI]
      simp [evE, walkD, e0]
    · rintro q acc env h' ⟨_, z', y4, rfl, rfl, e1, e2⟩
      simp [Gd.ok, gd1, e1]
    · rintro q r hr acc env h' ⟨la, z', y4, rfl, rfl, e1, e2⟩
      have hq : q < 2 ^ i := by
        have := (List.getElem?_eq_some_iff.mp hr).1
        rwa [lawRows_len] at this
      have hpw : 2 ^ i ≤ 2 ^ 12 := Nat.pow_le_pow_right (by omega) (by omega)
      have hrl : r.length = i := lawRows_row i r (List.mem_of_getElem? hr)
      have lz : z.length < z'.length := (List.getElem?_eq_some_iff.mp e2).1
      have lj : j < z'.length := (List.getElem?_eq_some_iff.mp e1).1
      have s1 : r.length + 1 ≤ sizeLine := by rw [sizeLine_eq]; omega
      have s2 : acc.length + 2 ≤ sizeLine := by rw [sizeLine_eq]; omega
      have f1 : ∀ o : MO, (z' ++ [o])[z.length]? = some (.list (acc.map dI)) := fun o => by rw [List.getElem?_append_left lz, e2]
      have f2 : ∀ o : MO, (h ++ (z' ++ [o]))[h.length + z'.length]? = some o := fun o => by rw [app_get]; simp
      refine ⟨_, rfl, .nxE (env := [some (.int many), some (.ref (h.length + j)), some (.int (x : Int)), some (.ref (h.length + z.length)), some (dI r)]) (h := h ++ (z' ++ [MO.list [dI (r ++ [0]), dI (r ++ [1])]]).set z.length (MO.list ((acc ++ [r ++ [0], r ++ [1]]).map dI))) ?_ ⟨by simp [la]; omega, _, _, rfl, rfl, ?_, ?_⟩⟩
      · simp [evSs, evS, evE, evEs, evL, Mt.recv, e2, s1, newC, Mt.run, f1, f2, s2]
        rw [gc_at (i := h.length + z.length) (a := .list (acc.map dI)) (b := .list (acc.map dI ++ [D.tup (List.map D.int r ++ [D.int 0]), D.tup (List.map D.int r ++ [D.int 1])])) (by rw [app_get, e2]) (by rw [app_get, List.getElem?_set_self (by simp; omega)]) (fun z => by simp at z)]
        simp [dI]
      · rw [List.getElem?_set_ne (by omega), List.getElem?_append_left lj, e1]
      · rw [List.getElem?_set_self (by simp; omega)]
    · exact ⟨rfl, z ++ [.list []], x4, rfl, rfl, by rw [List.getElem?_append_left hj, hz], by simp⟩
    · rintro env h' ⟨la, z', y4, rfl, rfl, e1, e2⟩
      have fm : ∀ (xs acc : List (List Int)), xs.foldl (fun acc r => acc ++ [r ++ [0], r ++ [1]]) acc = acc ++ xs.flatMap fun r => [r ++ [0], r ++ [1]] := fun xs => by
        induction xs with
        | nil => intro acc; simp
        | cons x xs ih => intro acc; rw [List.foldl_cons, ih]; simp
      rw [fm] at e2
      refine .nxE (env := [some (.int many), some (.ref (h.length + z.length)), some (.int (x : Int)), some (.ref (h.length + z.length)), y4]) (h := h ++ z') (by simp [evSs, evS, evE, gc_ref, Tg.bind]) ⟨z', z.length, _, _, _, rfl, rfl, by rw [e2]; simp [lawRows]⟩
  · rintro env h' ⟨z, j, x2, x3, x4, rfl, rfl, hz⟩
    exact retL (z := z) (i := j) (by simp [evE]) (by simpa using hz)
end K01
end
section
set_option maxHeartbeats 1000000
namespace K01
open PySem MI
section
variable {ns cells : List Int} {rest h z : Hs} {n : Nat}
theorem Bagged.app (o : Bagged ns cells rest h) (z : Hs) : Bagged ns cells (rest ++ z) (h ++ z) := by
  obtain ⟨e, st, pos, rfl, o⟩ := o
  exact ⟨e, st, pos, rfl, o⟩
theorem Bagged.size (o : Bagged ns cells rest h) : h.length = rest.length + 4 := by
  obtain ⟨e, st, pos, rfl, o⟩ := o
  rfl
theorem Bagged.at {h' : Hs} (o : Bagged ns cells rest h) (o' : Bagged ns cells rest h') {i : Nat} (hi : 4 ≤ i) : h'[i]? = h[i]? := by
  obtain ⟨e, st, pos, rfl, _⟩ := o
  obtain ⟨e', st', pos', rfl, _⟩ := o'
  obtain ⟨j, rfl⟩ : ∃ j, i = j + 4 := ⟨i - 4, by omega⟩
  rfl
/-- drawn bits -/
theorem bits_run {m : Nat} {env : MI.Env} (hn : 4 ≤ n) (o : Bagged ns cells rest h) (hm : m ≤ 1000000) (e1 : env[1]? = some (some (.ref 3))) (e3 : env[3]? = some (some (.int (m : Int)))) (hl : 12 < env.length) :
    ∃ xs h', evE (.fl .tuple (.l (.comp (.call n__law_take (.cons (.var 1) (.cons (.lit (.int 2)) .nil))) (.v 12) (.range1 (.var 3)) .nil))) (pg.ct (callF pg n)) env h = .ok (dI xs) h' ∧ xs.length = m ∧ Bits xs ∧ Bagged ns cells rest h' := by
  have r := range1_ok (j := (m : Int)) (by omega) (by omega)
  rw [Int.toNat_natCast] at r
  simp [evE, evA, evL, evI, e3, r, Tg.slots]
  generalize hL : loopC _ _ _ _ = L
  obtain ⟨ys, h', rfl, len, qy, o'⟩ := loopC_inv_of (P := Bagged ns cells rest) (Q := fun d => ∃ v : Int, d = .int v ∧ (v = 0 ∨ v = 1)) hL o (fun x hx h o => by
    obtain ⟨k, _, rfl⟩ := List.mem_map.mp hx
    obtain ⟨v, h', q1, q2, q3, q4⟩ := c_law_take' (n := n) (many := 2) (by omega) o (by omega) (by omega)
    refine ⟨.int v, h', ?_, ⟨v, rfl, by omega⟩, q4⟩
    simp [Tg.bind, wipeE, evC, evE, evEs, e1, q1, gc_same (o.len q4), List.getElem?_set])
  have : ∃ xs : List Int, ys = xs.map .int ∧ Bits xs := by
    clear hL len
    induction ys with
    | nil => exact ⟨[], rfl, fun x hx => by cases hx⟩
    | cons y ys ih =>
      obtain ⟨xs, rfl, b⟩ := ih fun y hy => qy y (by simp [hy])
      obtain ⟨v, rfl, hv⟩ := qy y (by simp)
      exact ⟨v :: xs, rfl, fun x hx => by
        rcases List.mem_cons.mp hx with rfl | hx
        · exact hv
        · exact b x hx⟩
  obtain ⟨xs, rfl, b⟩ := this
  refine ⟨xs, h', by simp [FL.run], by simpa using len, b, o'⟩
theorem pair_run {m : Nat} {env : MI.Env} (hn : 4 ≤ n) (o : Bagged ns cells rest h) (hm : m ≤ 1000000) (e1 : env[1]? = some (some (.ref 3))) (e3 : env[3]? = some (some (.int (m : Int)))) (hl : env.length = 20) :
    ∃ xs ys h', evL (.comp (.fl .tuple (.l (.comp (.call n__law_take (.cons (.var 1) (.cons (.lit (.int 2)) .nil))) (.v 12) (.range1 (.var 3)) .nil))) (.v 18) (.range1 (.lit (.int 2))) .nil) (pg.ct (callF pg n)) env h = .ok [dI xs, dI ys] h' ∧ xs.length = m ∧ Bits xs ∧ ys.length = m ∧ Bits ys ∧ Bagged ns cells rest h' := by
  have ei : evI (.range1 (.lit (.int 2))) (pg.ct (callF pg n)) env h = .ok ([(0 : Nat), 1].map (fun k : Nat => .int (k : Int)), []) h := by
    rw [evI, evE, R.bind_ok, range1_ok (j := 2) (by omega) (by omega)]
    rfl
  rw [evL, ei, R.bind_ok]
  generalize hL : loopC _ _ _ _ = L
  obtain ⟨ys, h', rfl, len, qy, o'⟩ := loopC_inv_of (P := Bagged ns cells rest) (Q := fun d => ∃ v : List Int, d = dI v ∧ v.length = m ∧ Bits v) hL o (fun x hx h o => by
    obtain ⟨k, _, rfl⟩ := List.mem_map.mp hx
    obtain ⟨xs, h', q1, q2, q3, q4⟩ := bits_run (m := m) (env := (wipeE env [18]).set 18 (some (.int (k : Int)))) hn o hm (by simp [wipeE, List.getElem?_set, e1]) (by simp [wipeE, List.getElem?_set, e3]) (by simp [wipeE, hl])
    refine ⟨dI xs, h', ?_, ⟨xs, rfl, q2, q3⟩, q4⟩
    simp only [Tg.bind, Tg.slots, ofO_some, R.bind_ok, evC, if_true]
    rw [q1, gc_same (o.len q4)]
    rfl)
  match ys, len, qy with
  | [a, b], _, qy =>
    obtain ⟨xs, rfl, x1, x2⟩ := qy a (by simp)
    obtain ⟨zs, rfl, z1, z2⟩ := qy b (by simp)
    exact ⟨xs, zs, h', rfl, x1, x2, z1, z2, o'⟩
/-- the law's state at the head of its loop -/
def St (ns cells : List Int) (env : MI.Env) (h : Hs) : Prop := ∃ rest e2 e3 e4 e5 e6 e7 e8 e9 e10 e11 e12 e13 e14 e15 e16 e17 e18 e19, env = [some (.ref 0), some (.ref 3), e2, e3, e4, e5, e6, e7, e8, e9, e10, e11, e12, e13, e14, e15, e16, e17, e18, e19] ∧ Bagged ns cells rest h
theorem law_run {ns : List Int} (hn : 20 ≤ n) : Rett (evSs lb (pg.ct (callF pg n)) (some (.ref 0) :: List.replicate 19 none) [.frz (ns.map .int)]) := by
  obtain ⟨cells, b1, b2⟩ := c_law_bag (n := n) (ns := ns) (by omega)
  refine ss_as (h1 := bg ns cells 0 1234567891 0 []) (d := .ref 3) (by simp [evE, evEs, b1, gc_ref]) rfl ?_
  have r6 := range1_ok (j := 6) (by omega) (by omega)
  refine ss_for (g := []) (ψ := fun k : Nat => D.int (k : Int)) (xs := List.range 6) (S := fun (_ : Unit) => St ns cells) (step := fun _ _ => ()) (b := ()) (by rw [evI, evE, R.bind_ok, r6]; rfl) (fun _ _ _ _ => rfl) ?_ ⟨[], _, _, _, _, _, _, _, _, _, _, _, _, _, _, _, _, _, _, rfl, _, _, _, rfl, b2⟩ ?_
  · rintro k hk _ env h ⟨rest, e2, e3, e4, e5, e6, e7, e8, e9, e10, e11, e12, e13, e14, e15, e16, e17, e18, e19, rfl, o⟩
    refine ⟨_, rfl, ?_⟩
    -- many
    obtain ⟨v, h1, q1, v0, v1, o1⟩ := c_law_take' (n := n) (many := 8) (by omega) o (by omega) (by omega)
    refine ss_as (h1 := h1) (d := .int (1 + v)) (by simp [evE, evEs, q1, gc_same (o.len o1)]) rfl ?_
    obtain ⟨m, hm⟩ : ∃ m : Nat, 1 + v = m := ⟨(1 + v).toNat, by omega⟩
    have m1 : 1 ≤ m := by omega
    have m8 : m ≤ 8 := by omega
    rw [hm]
    have rm := range1_ok (j := (m : Int)) (by omega) (by omega)
    rw [Int.toNat_natCast] at rm
    -- one, other
    obtain ⟨one, other, h2, q2, l1, b1, l2, b2', o2⟩ := pair_run (n := n) (m := m) (env := [some (.ref 0), some (.ref 3), some (.int (k : Int)), some (.int (m : Int)), e4, e5, e6, e7, e8, e9, e10, e11, e12, e13, e14, e15, e16, e17, e18, e19]) (by omega) o1 (by omega) rfl rfl rfl
    have s2 := o2.size
    refine ss_as (h1 := h2 ++ [.list [dI one, dI other]]) (d := .ref h2.length) ?_ (by simp [Tg.bind, Tg.binds, unpk]; rfl) ?_
    · show gc h1 (evE (.new _) _ [some (.ref 0), some (.ref 3), some (.int (k : Int)), some (.int (m : Int)), e4, e5, e6, e7, e8, e9, e10, e11, e12, e13, e14, e15, e16, e17, e18, e19] h1) = _
      rw [evE, q2]
      simp [newC, gc_ref]
    have o3 := o2.app [.list [dI one, dI other]]
    generalize hh3 : h2 ++ [MO.list [dI one, dI other]] = h3 at o3 ⊢
    -- ones
    refine ss_as (h1 := h3) (d := dI (onesI one)) ?_ rfl ?_
    · simp [evE, evA, evL, evI, rm, Tg.slots]
      rw [loopC_flt (φ := fun k : Nat => .int (k : Int)) (p := fun k : Nat => (one[k]?).any fun b => decide (b = 1)) (by simp)]
      · simp [FL.run, onesI, l1, Function.comp_def]
      · intro x hx
        have hx := List.mem_range.mp hx
        have ix := idx_tup (h := h3) (xs := one.map .int) (k := x) (d := .int one[x]) (by simp [List.getElem?_eq_getElem, hx, l1])
        by_cases c1 : one[x] = 1 <;> simp [Tg.bind, wipeE, evC, evE, evEs, ix, c1, List.getElem?_eq_getElem, hx, l1]
    -- number
    refine ss_as (h1 := h3) (d := .int 0) (by simp [evE]) rfl ?_
    refine ss_for (g := []) (ψ := D.int) (xs := one) (S := fun (a : Int) env h' => ∃ x, env = [some (.ref 0), some (.ref 3), some (.int (k : Int)), some (.int (m : Int)), some (dI (onesI one)), some (.int a), x, e7, e8, e9, e10, e11, e12, e13, e14, e15, some (dI one), some (dI other), e18, e19] ∧ h' = h3) (step := fun a b => 2 * a + b) (b := 0) (by simp [evI, evE, walkD]) (fun _ _ _ _ => rfl) ?_ ⟨_, rfl, rfl⟩ ?_
    · rintro x hx a env h' ⟨y, rfl, rfl⟩
      refine ⟨_, rfl, ?_⟩
      exact .nxE (by simp [evSs, evS, evE, Tg.bind]; first | rfl | exact ⟨rfl, rfl⟩) ⟨_, rfl, rfl⟩
    rintro env h' ⟨x6, rfl, rfl⟩
    rw [show one.foldl (fun a b => 2 * a + b) 0 = numI one from rfl]
    -- looked
    have lt1 := lot_of_sub (m := m) (l1 ▸ ones_sub one)
    have nl := num_lt b1
    have r1 := c_ones_of (n := n) (h := h') (row := one) (by omega)
    have r2 := c_row_of (n := n) (h := h') (ones := onesI one) (many := (m : Int)) (by omega) (by omega) (by omega)
    have r3 := c_number_of_row (n := n) (h := h') (row := one) (by omega)
    have r4 := c_row_by (n := n) (h := h') (many := (m : Int)) (num := numI one) (by omega) (by omega) (by omega)
    have e2' := row_ones b1
    have e4' := made_num b1
    rw [Int.toNat_natCast, if_pos lt1, ← l1, e2', l1] at r2
    rw [Int.toNat_natCast, ← l1, if_pos nl, e4', l1] at r4
    refine ss_as (h1 := h' ++ [.list [dI (onesI one), dI one, .int (numI one), dI one]]) (d := .ref h'.length) (by simp [evE, evEs, evL, r1, r2, r3, r4, newC, gc_ref]) rfl ?_
    have b9 : ∀ {xs : List Int}, Bits xs → ∀ x ∈ xs, x.natAbs < 10 ^ 12 := fun b x hx => by rcases b x hx with z | z <;> rw [z] <;> decide
    have o9 : ∀ x ∈ onesI one, x.natAbs < 10 ^ 12 := fun x hx => by
      obtain ⟨j, hj, rfl⟩ := List.mem_map.mp ((ones_sub one).subset hx)
      have := List.mem_range.mp hj
      omega
    have n9 : (numI one).natAbs < 10 ^ 12 := by
      have t1 : (2 : Int) ^ one.length ≤ 256 := by
        obtain ⟨_, _, _⟩ := pow_le20 (m := one.length) (by omega)
        rw [pow_cast]
        have : 2 ^ one.length ≤ 2 ^ 8 := Nat.pow_le_pow_right (by omega) (by omega)
        omega
      omega
    have ol : (onesI one).length ≤ 8 := by
      have := (ones_sub one).length_le
      simp at this
      omega
    have g1 : ∀ (hh : Hs) (i : Nat), hh[i]? = some (.list [dI (onesI one), dI one, .int (numI one), dI one]) → PGood hh (.ref i) (.list (toPs [dI (onesI one), dI one, .int (numI one), dI one])) := fun hh i e => PGood.list e
      (fineDs_of fun x hx => by
        simp only [List.mem_cons, List.not_mem_nil, or_false] at hx
        rcases hx with rfl | rfl | rfl | rfl
        · exact fine_dI o9
        · exact fine_dI (b9 b1)
        · simpa [fineD] using n9
        · exact fine_dI (b9 b1))
      (dpDs_of fun x hx => by
        simp only [List.mem_cons, List.not_mem_nil, or_false] at hx
        rcases hx with rfl | rfl | rfl | rfl <;> first
          | (exact Nat.le_trans (dp_dI _) (by omega))
          | simp [dpD])
      (by simp only [szDs, szD, sz_ints]; omega)
    have al := c_law_alike (n := n) (by omega) (g1 (h' ++ [.list [dI (onesI one), dI one, .int (numI one), dI one], .list [dI (onesI one), dI one, .int (numI one), dI one]]) h'.length (by simp)) (g1 _ (h'.length + 1) (by rw [app_get]; rfl))
    refine ss_if0 (h1 := h' ++ [.list [dI (onesI one), dI one, .int (numI one), dI one]]) (by
      simp [evE, evEs, evL, newC, al]
      exact tst_pre (by simp)) ?_
    -- under
    have o4 := o3.app [.list [dI (onesI one), dI one, .int (numI one), dI one]]
    generalize hh4 : h' ++ [MO.list [dI (onesI one), dI one, .int (numI one), dI one]] = h4 at o4 ⊢
    let fu : List Nat := (List.range m).filter fun k => decide (other.getD k 0 < one.getD k 0)
    have efu : fu = (List.range m).filter fun k => decide (other.getD k 0 < one.getD k 0) := rfl
    have eun : underI one other = decide (fu.map (fun k : Nat => D.int (k : Int)) = []) := by
      rw [under_filter (l1.trans l2.symm), l1, efu]
      simp
    have fuf : fineDs (fu.map fun k : Nat => D.int (k : Int)) = true := fineDs_of fun x hx => by
      obtain ⟨k, hk, rfl⟩ := List.mem_map.mp hx
      have := List.mem_range.mp (List.mem_filter.mp hk).1
      simp only [fineD, decide_eq_true_eq]
      omega
    have fud : dpDs (fu.map fun k : Nat => D.int (k : Int)) ≤ 39 := dpDs_of fun x hx => by
      obtain ⟨k, hk, rfl⟩ := List.mem_map.mp hx
      simp [dpD]
    refine ss_as (h1 := h4) (d := .bool (underI one other)) ?_ rfl ?_
    · simp [evE, evEs, evL, evI, rm, Tg.slots]
      rw [loopC_flt (φ := fun k : Nat => .int (k : Int)) (p := fun k : Nat => decide (other.getD k 0 < one.getD k 0)) (by simp)]
      · rw [← efu]
        have q := eq_nil (h := h4 ++ [.list (fu.map fun k : Nat => D.int (k : Int)), .list []]) (i := h4.length) (j := h4.length + 1) (by simp) (by rw [app_get]; rfl) fuf fud
        simp [newC, q]
        rw [eun]
        simp
      · intro x hx
        have hx := List.mem_range.mp hx
        have ix := idx_tup (h := h4) (xs := one.map .int) (k := x) (d := .int one[x]) (by simp [List.getElem?_eq_getElem, hx, l1])
        have iy := idx_tup (h := h4) (xs := other.map .int) (k := x) (d := .int other[x]) (by simp [List.getElem?_eq_getElem, hx, l2])
        have gx : one.getD x 0 = one[x] := by simp [List.getElem?_eq_getElem, hx, l1]
        have gy : other.getD x 0 = other[x] := by simp [List.getElem?_eq_getElem, hx, l2]
        by_cases c1 : other[x] < one[x] <;> simp [Tg.bind, wipeE, evC, evE, evEs, ix, iy, c1, gx, gy, -List.getD_eq_getElem?_getD]
    -- unlike
    refine ss_as (h1 := h4) (d := dI (unlikeI one other)) ?_ rfl ?_
    · simp [evE, evA, evL, evI, rm, Tg.slots]
      rw [loopC_flt (φ := fun k : Nat => .int (k : Int)) (p := fun k : Nat => decide (one.getD k 0 ≠ other.getD k 0)) (by simp)]
      · rw [unlike_filter (l1.trans l2.symm), l1]
        simp [FL.run, Function.comp_def]
      · intro x hx
        have hx := List.mem_range.mp hx
        have ix := idx_tup (h := h4) (xs := one.map .int) (k := x) (d := .int one[x]) (by simp [List.getElem?_eq_getElem, hx, l1])
        have iy := idx_tup (h := h4) (xs := other.map .int) (k := x) (d := .int other[x]) (by simp [List.getElem?_eq_getElem, hx, l2])
        have gx : one.getD x 0 = one[x] := by simp [List.getElem?_eq_getElem, hx, l1]
        have gy : other.getD x 0 = other[x] := by simp [List.getElem?_eq_getElem, hx, l2]
        by_cases c1 : one[x] = other[x] <;> simp [Tg.bind, wipeE, evC, evE, evEs, ix, iy, c1, gx, gy, -List.getD_eq_getElem?_getD]
    have u1 := c_is_under (n := n) (h := h4) (one := one) (other := other) (by omega)
    have u2 := c_unlike_columns (n := n) (h := h4) (one := one) (other := other) (by omega)
    have u9 : ∀ x ∈ unlikeI one other, x.natAbs < 10 ^ 12 := fun x hx => by
      rw [unlike_filter (l1.trans l2.symm)] at hx
      obtain ⟨j, hj, rfl⟩ := List.mem_map.mp hx
      have := List.mem_range.mp (List.mem_filter.mp hj).1
      omega
    have ul : (unlikeI one other).length ≤ 8 := by
      rw [unlike_filter (l1.trans l2.symm), List.length_map]
      have := List.length_filter_le (fun k => decide (one.getD k 0 ≠ other.getD k 0)) (List.range one.length)
      rw [List.length_range] at this
      omega
    have g2 : ∀ (hh : Hs) (i : Nat), hh[i]? = some (.list [.bool (underI one other), dI (unlikeI one other)]) → PGood hh (.ref i) (.list (toPs [.bool (underI one other), dI (unlikeI one other)])) := fun hh i e => PGood.list e
      (fineDs_of fun x hx => by
        simp only [List.mem_cons, List.not_mem_nil, or_false] at hx
        rcases hx with rfl | rfl
        · simp [fineD]
        · exact fine_dI u9)
      (dpDs_of fun x hx => by
        simp only [List.mem_cons, List.not_mem_nil, or_false] at hx
        rcases hx with rfl | rfl <;> first
          | (exact Nat.le_trans (dp_dI _) (by omega))
          | simp [dpD])
      (by simp only [szDs, szD, sz_ints]; omega)
    have al2 := c_law_alike (n := n) (by omega) (g2 (h4 ++ [.list [.bool (underI one other), dI (unlikeI one other)], .list [.bool (underI one other), dI (unlikeI one other)]]) h4.length (by simp)) (g2 _ (h4.length + 1) (by rw [app_get]; rfl))
    refine ss_if0 (h1 := h4) (by
      simp [evE, evEs, evL, newC, u1, u2, al2]
      exact tst_pre (by simp)) ?_
    -- few
    obtain ⟨v2, h5, q5, v20, v21, o5⟩ := c_law_take' (n := n) (many := 5) (by omega) o4 (by omega) (by omega)
    refine ss_as (h1 := h5) (d := .int (1 + v2)) (by simp [evE, evEs, q5, gc_same (o4.len o5)]) rfl ?_
    obtain ⟨f, hf⟩ : ∃ f : Nat, 1 + v2 = f := ⟨(1 + v2).toNat, by omega⟩
    have f1 : 1 ≤ f := by omega
    have f5 : f ≤ 5 := by omega
    rw [hf]
    obtain ⟨z6, i6, q6, e6⟩ := c_law_rows (n := n) (h := h5) (many := (f : Int)) (by omega) (by omega) (by omega)
    rw [Int.toNat_natCast] at e6
    refine ss_as (h1 := h5 ++ z6) (d := .ref (h5.length + i6)) (by simp [evE, evEs, q6, gc_ref]) rfl ?_
    have o6 := o5.app z6
    have rr : (h5 ++ z6)[h5.length + i6]? = some (.list ((lawRows f).map dI)) := by rw [app_get, e6]
    generalize hh6 : h5 ++ z6 = h6 at o6 rr ⊢
    have ar := c_all_rows (n := n) (h := h6) (many := (f : Int)) (by omega) (by omega) (by omega)
    rw [Int.toNat_natCast, rows_law] at ar
    have bl : ∀ r ∈ lawRows f, Bits r ∧ r.length = f := fun r hr => by
      refine ⟨?_, lawRows_row f r hr⟩
      rw [← rows_law] at hr
      obtain ⟨k, _, rfl⟩ := List.mem_map.mp hr
      exact made_bits _ _
    have p2 : 2 ^ f ≤ 2 ^ 5 := Nat.pow_le_pow_right (by omega) f5
    have g3 : ∀ hh : Hs, PGood hh (.tup ((lawRows f).map dI)) (toP (.tup ((lawRows f).map dI))) := fun hh => .of
      (by
        rw [fineD]
        exact fineDs_of fun x hx => by
          obtain ⟨r, hr, rfl⟩ := List.mem_map.mp hx
          exact fine_dI (b9 (bl r hr).1))
      (by
        have := dpDs_of (xs := (lawRows f).map dI) (n := 2) fun x hx => by
          obtain ⟨r, hr, rfl⟩ := List.mem_map.mp hx
          exact dp_dI r
        simp only [dpD]
        omega)
      (by
        have := szDs_of (xs := (lawRows f).map dI) (n := 210) fun x hx => by
          obtain ⟨r, hr, rfl⟩ := List.mem_map.mp hx
          rw [sz_dI, (bl r hr).2]
          omega
        rw [List.length_map, lawRows_len] at this
        simp only [szD]
        omega)
    have al3 := c_law_alike (n := n) (by omega) (g3 h6) (g3 h6)
    refine ss_if0 (h1 := h6) (by
      simp [evE, evEs, evA, seqD, FL.run, rr, ar, al3]) ?_
    -- k
    have pg2 : 0 < 2 ^ f := Nat.two_pow_pos f
    obtain ⟨N, hN⟩ : ∃ N : Nat, N = 2 ^ f := ⟨_, rfl⟩
    obtain ⟨v3, h7, q7, v30, v31, o7⟩ := c_law_take' (n := n) (many := (N : Int)) (by omega) o6 (by omega) (by omega)
    have len6 : F1.len.run (.ref (h5.length + i6)) h6 = some (.int (N : Int)) := by
      simp [F1.run, lenD, rr, lawRows_len, hN]
    have s5 := o5.size
    have rr7 : h7[h5.length + i6]? = some (.list ((lawRows f).map dI)) := by rw [o6.at o7 (by omega), rr]
    refine ss_as (h1 := h7) (d := .int v3) (by simp [evE, evEs, len6, q7, gc_same (o6.len o7)]) rfl ?_
    obtain ⟨kk, hkk⟩ : ∃ kk : Nat, v3 = kk := ⟨v3.toNat, by omega⟩
    subst hkk
    have hk2 : kk < 2 ^ f := by omega
    have rk : (lawRows f)[kk]? = some (madeI f (kk : Int)) := by
      rw [← rows_law, rowsI, List.getElem?_map, List.getElem?_range hk2]
      rfl
    have ik := idx_list (h := h7) (xs := (lawRows f).map dI) (k := kk) (d := dI (madeI f (kk : Int))) rr7 (by rw [List.getElem?_map, rk]; rfl)
    have w1 := c_row_by (n := n) (h := h7) (many := (f : Int)) (num := (kk : Int)) (by omega) (by omega) (by omega)
    have hkp : (kk : Int) < 2 ^ f := by rw [pow_cast]; omega
    rw [Int.toNat_natCast, if_pos ⟨by omega, hkp⟩] at w1
    have w2 := c_number_of_row (n := n) (h := h7) (row := madeI f (kk : Int)) (by omega)
    rw [num_made f (kk : Int) (by omega) hkp] at w2
    have g4 : ∀ (hh : Hs) (i : Nat), hh[i]? = some (.list [dI (madeI f (kk : Int)), .int (kk : Int)]) → PGood hh (.ref i) (.list (toPs [dI (madeI f (kk : Int)), .int (kk : Int)])) := fun hh i e => PGood.list e
      (fineDs_of fun x hx => by
        simp only [List.mem_cons, List.not_mem_nil, or_false] at hx
        rcases hx with rfl | rfl
        · exact fine_dI (b9 (made_bits _ _))
        · simp only [fineD, decide_eq_true_eq]; omega)
      (dpDs_of fun x hx => by
        simp only [List.mem_cons, List.not_mem_nil, or_false] at hx
        rcases hx with rfl | rfl <;> first
          | (exact Nat.le_trans (dp_dI _) (by omega))
          | simp [dpD])
      (by simp only [szDs, szD, sz_ints, made_len]; omega)
    have al4 := c_law_alike (n := n) (by omega) (g4 (h7 ++ [.list [dI (madeI f (kk : Int)), .int (kk : Int)], .list [dI (madeI f (kk : Int)), .int (kk : Int)]]) h7.length (by simp)) (g4 _ (h7.length + 1) (by rw [app_get]; rfl))
    have ik' : idxD (h7 ++ [.list [dI (madeI f (kk : Int)), .int (kk : Int)]]) (.ref (h5.length + i6)) (.int (kk : Int)) = some (dI (madeI f (kk : Int))) := idx_list (by rw [List.getElem?_append_left (List.getElem?_eq_some_iff.mp rr7).1, rr7]) (by rw [List.getElem?_map, rk]; rfl)
    refine ss_if0 (h1 := h7) (by
      simp [evE, evEs, evL, newC, w1, w2, ik, ik', al4]
      exact tst_pre (by simp)) ?_
    -- lot
    obtain ⟨lot, h8, q8, lsub, o8⟩ := c_law_lot (n := n) (many := (m : Int)) (by omega) o7 (by omega) (by omega)
    rw [Int.toNat_natCast] at lsub
    refine ss_as (h1 := h8) (d := dI lot) (by simp [evE, evEs, q8, gc_same (o7.len o8)]) rfl ?_
    obtain ⟨zs, zsub, rfl⟩ := List.sublist_map_iff.mp lsub
    generalize hlot : zs.map (fun k : Nat => (k : Int)) = lot at lsub ⊢
    refine ss_as (h1 := h8) (d := dI (rowI m lot)) ?_ rfl ?_
    · simp [evE, evA, evL, evI, rm, Tg.slots]
      rw [loopC_map (φ := fun k : Nat => .int (if ((k : Nat) : Int) ∈ lot then 1 else 0)) (by simp)]
      · simp [FL.run, rowI, Function.comp_def]
      · intro x hx
        by_cases hm : (x : Int) ∈ lot <;> simp [Tg.bind, wipeE, evC, evE, evEs, hm]
    have or : onesI (rowI m lot) = lot := by rw [← hlot]; exact ones_row zsub
    have y1 := c_row_of (n := n) (h := h8) (ones := lot) (many := (m : Int)) (by omega) (by omega) (by omega)
    rw [Int.toNat_natCast, if_pos (lot_of_sub lsub)] at y1
    have y2 := c_ones_of (n := n) (h := h8) (row := rowI m lot) (by omega)
    rw [or] at y2
    have t9 : ∀ x ∈ lot, x.natAbs < 10 ^ 12 := fun x hx => by
      obtain ⟨j, hj, rfl⟩ := List.mem_map.mp (lsub.subset hx)
      have := List.mem_range.mp hj
      omega
    have tl : lot.length ≤ 8 := by
      have := lsub.length_le
      simp at this
      omega
    have rb : Bits (rowI m lot) := fun x hx => by
      obtain ⟨j, hj, rfl⟩ := List.mem_map.mp hx
      split <;> omega
    have rl : (rowI m lot).length = m := by simp [rowI]
    have g5 : ∀ (hh : Hs) (i : Nat), hh[i]? = some (.list [dI (rowI m lot), dI lot]) → PGood hh (.ref i) (.list (toPs [dI (rowI m lot), dI lot])) := fun hh i e => PGood.list e
      (fineDs_of fun x hx => by
        simp only [List.mem_cons, List.not_mem_nil, or_false] at hx
        rcases hx with rfl | rfl
        · exact fine_dI (b9 rb)
        · exact fine_dI t9)
      (dpDs_of fun x hx => by
        simp only [List.mem_cons, List.not_mem_nil, or_false] at hx
        rcases hx with rfl | rfl <;> exact Nat.le_trans (dp_dI _) (by omega))
      (by simp only [szDs, szD, sz_ints, rl]; omega)
    have al5 := c_law_alike (n := n) (by omega) (g5 (h8 ++ [.list [dI (rowI m lot), dI lot], .list [dI (rowI m lot), dI lot]]) h8.length (by simp)) (g5 _ (h8.length + 1) (by rw [app_get]; rfl))
    refine ss_if0 (h1 := h8) (by
      simp [evE, evEs, evL, newC, y1, y2, al5]
      exact tst_pre (by simp)) ?_
    -- acts
    have o9' := o8.app [.list [.clo 0, .clo 1, .clo 2, .clo 3, .clo 4, .clo 5, .clo 6, .clo 7]]
    refine ss_as (h1 := h8 ++ [.list [.clo 0]]) (d := .ref h8.length) (by simp [evE, evEs, evL, newC, gc_ref]) rfl ?_
    refine ss_stepE (app_clo (a := h8.length) (xs := [.clo 0]) rfl (by simp) (by simp)) ?_
    refine ss_stepE (app_clo (a := h8.length) (xs := [.clo 0, .clo 1]) rfl (by simp) (by simp)) ?_
    refine ss_stepE (app_clo (a := h8.length) (xs := [.clo 0, .clo 1, .clo 2]) rfl (by simp) (by simp)) ?_
    refine ss_stepE (app_clo (a := h8.length) (xs := [.clo 0, .clo 1, .clo 2, .clo 3]) rfl (by simp) (by simp)) ?_
    refine ss_stepE (app_clo (a := h8.length) (xs := [.clo 0, .clo 1, .clo 2, .clo 3, .clo 4]) rfl (by simp) (by simp)) ?_
    refine ss_stepE (app_clo (a := h8.length) (xs := [.clo 0, .clo 1, .clo 2, .clo 3, .clo 4, .clo 5]) rfl (by simp) (by simp)) ?_
    refine ss_stepE (app_clo (a := h8.length) (xs := [.clo 0, .clo 1, .clo 2, .clo 3, .clo 4, .clo 5, .clo 6]) rfl (by simp) (by simp)) ?_
    simp only [List.cons_append, List.nil_append, app_set0, List.set_cons_zero]
    generalize hh9 : h8 ++ [MO.list [D.clo 0, D.clo 1, D.clo 2, D.clo 3, D.clo 4, D.clo 5, D.clo 6, D.clo 7]] = h9 at o9' ⊢
    have e9 : h9[h8.length]? = some (.list [.clo 0, .clo 1, .clo 2, .clo 3, .clo 4, .clo 5, .clo 6, .clo 7]) := by rw [← hh9]; simp
    obtain ⟨j, rfl⟩ : ∃ j, n = j + 2 := ⟨n - 2, by omega⟩
    generalize henv : List.set _ 15 _ = env9
    have v3 : env9[3]? = some (some (.int (m : Int))) := by rw [← henv]; rfl
    have v15 : env9[15]? = some (some (.ref h8.length)) := by rw [← henv]; rfl
    have z0 : refused (pg.ct (callF pg (j + 2))) c_Nothing env9 h9 (.clo 0) = true := refused_of (x := ⟨c_Nothing, []⟩) (h1 := h9) rfl (by
      have q := c_row_of (n := j) (h := h9) (ones := [(m : Int)]) (many := (m : Int)) (by omega) (by omega) (by omega)
      rw [if_neg (by simp [lotI])] at q
      simp only [dI, List.map_cons, List.map_nil] at q
      simp [evE, evEs, v3, call_off, q]) rfl (by simp)
    have z1 : refused (pg.ct (callF pg (j + 2))) c_Nothing env9 h9 (.clo 1) = true := refused_of (x := ⟨c_Nothing, []⟩) (h1 := h9) rfl (by
      have q := c_row_of_no (n := j) (h := h9) (d := .none) (many := (m : Int)) (by omega) rfl (fun _ z => by cases z)
      simp [evE, evEs, v3, call_off, q]) rfl (by simp)
    have z2 : refused (pg.ct (callF pg (j + 2))) c_Nothing env9 h9 (.clo 2) = true := refused_of (x := ⟨c_Nothing, []⟩) (h1 := h9) rfl (by
      have q := c_row_of (n := j) (h := h9) (ones := [0, 0]) (many := (m : Int)) (by omega) (by omega) (by omega)
      rw [if_neg (by simp [lotI, risingI])] at q
      simp only [dI, List.map_cons, List.map_nil] at q
      simp [evE, evEs, v3, call_off, q]) rfl (by simp)
    have pw : (2 : Int) ^ m ≤ 512 := by
      rw [pow_cast]
      have : 2 ^ m ≤ 2 ^ 9 := Nat.pow_le_pow_right (by omega) (by omega)
      omega
    have z3 : refused (pg.ct (callF pg (j + 2))) c_Nothing env9 h9 (.clo 3) = true := refused_of (x := ⟨c_Nothing, []⟩) (h1 := h9) rfl (by
      have q := c_row_by (n := j) (h := h9) (num := 512) (many := (m : Int)) (by omega) (by omega) (by omega)
      rw [Int.toNat_natCast, if_neg (by omega)] at q
      simp [evE, evEs, v3, call_off, q]) rfl (by simp)
    have z4 : refused (pg.ct (callF pg (j + 2))) c_Nothing env9 h9 (.clo 4) = true := refused_of (x := ⟨c_Nothing, []⟩) (h1 := h9) rfl (by
      have q := c_row_by (n := j) (h := h9) (num := -1) (many := (m : Int)) (by omega) (by omega) (by omega)
      rw [if_neg (by omega)] at q
      simp [evE, evEs, v3, call_off, q]) rfl (by simp)
    have z5 : refused (pg.ct (callF pg (j + 2))) c_Nothing env9 h9 (.clo 5) = true := refused_of (x := ⟨c_Nothing, []⟩) (h1 := h9) rfl (by
      have q := c_all_rows_no (n := j) (h := h9) (many := 0) (by omega) (by omega)
      simp [evE, evEs, call_off, q]) rfl (by simp)
    have z6 : refused (pg.ct (callF pg (j + 2))) c_Nothing env9 h9 (.clo 6) = true := refused_of (x := ⟨c_Nothing, []⟩) (h1 := h9) rfl (by
      have q := c_all_rows_no (n := j) (h := h9) (many := 13) (by omega) (by omega)
      simp [evE, evEs, call_off, q]) rfl (by simp)
    have z7 : refused (pg.ct (callF pg (j + 2))) c_Nothing env9 h9 (.clo 7) = true := refused_of (x := ⟨c_Nothing, []⟩) (h1 := h9) rfl (by
      have q := c_row_by_no (n := j) (h := h9) (d := .bool true) (many := (m : Int)) (by omega) rfl rfl
      simp [evE, evEs, v3, call_off, q]) rfl (by simp)
    have ac := acts_run (c := pg.ct (callF pg (j + 2))) (m := c_Nothing) v15 e9 (fun d hd => by
      simp only [List.mem_cons, List.not_mem_nil, or_false] at hd
      rcases hd with rfl | rfl | rfl | rfl | rfl | rfl | rfl | rfl <;> assumption)
    have q := ne_nil (h := h9 ++ [.list [], .list []]) (i := h9.length) (j := h9.length + 1) (xs := []) (by simp) (by rw [app_get]; rfl) rfl (by simp [dpDs])
    have n1 : evE (.new (.acts 15 c_Nothing)) (pg.ct (callF pg (j + 2))) env9 h9 = .ok (.ref h9.length) (h9 ++ [.list []]) := by
      rw [evE, ac]
      rfl
    have n2 : evE (.new (.disp .nil)) (pg.ct (callF pg (j + 2))) env9 (h9 ++ [.list []]) = .ok (.ref (h9.length + 1)) (h9 ++ [.list [], .list []]) := by simp [evE, evL, evEs, newC]
    refine ss_if0 (h1 := h9) (by
      rw [evE, n1, R.bind_ok, n2, R.bind_ok, q]
      exact tst_pre (by simp)) ?_
    rw [evSs, ← henv]
    exact .nx ⟨_, _, _, _, _, _, _, _, _, _, _, _, _, _, _, _, _, _, _, rfl, o9'⟩
  · rintro env h ⟨rest, e2, e3, e4, e5, e6, e7, e8, e9, e10, e11, e12, e13, e14, e15, e16, e17, e18, e19, rfl, o⟩
    exact rett (by rw [evE])
theorem ev (ns : List Int) : ∃ h', runL pg 30 f_law lb [.ref 0] [.frz (ns.map .int)] = .ok (.bool true) h' := by
  obtain ⟨h', e⟩ := law_run (n := 30) (ns := ns) (by omega)
  unfold runL
  rw [show List.map some [D.ref 0] ++ List.replicate (f_law.names.length - f_law.np) none = some (.ref 0) :: List.replicate 19 none from rfl, e, endS_ret]
  unfold gcX
  dsimp only
  split
  · exact ⟨_, rfl⟩
  · exact ⟨_, rfl⟩
end
end K01
end
section
set_option maxHeartbeats 0
namespace K01
open PySem PySem.Spec PyProof.Rows L2 MI
def top (i : Nat) : Stmt := PySem.Challenge.pw_tableshapes_k01_whole_rows_and_lots.main.body.getD i (.Pass ⟨0, 0, 0, 0⟩)
def sts : List Stmt := [top 0, top 6, top 7, top 8, top 9, top 10, top 12, top 13, top 14, top 15, top 16, top 17, top 18, top 19, top 20, top 22, top 23, top 24, top 25, top 26, top 27, top 28]
abbrev R : PySem.W.OpenRow := PySem.W.OpenLaw.row PySem.Challenge.rw_tableshapes_k01_whole_rows_and_lots
def loose : List Str := ["_wall", "ShapeError", "Nothing", "MOST_COLUMNS", "is_integer", "is_count", "are_rising", "is_tuple_of", "is_lot", "ones_of", "row_of", "number_of_row", "made_row", "power_of_two", "row_by", "all_rows", "is_under", "unlike_columns", "_law_bag", "_law_take", "_law_alike", "_law_rows", "_law_lot", "_law_is_nothing"]
def ob (s : PySem.W.SharedT) : He.AlX := He.obsX 4 (faOf pg) (fnsOf pg sts) [] (tfOf pg) (moreB pg) (HandSHeadRun.getT s)
theorem ob_eq (s : PySem.W.SharedT) : ob s = (hkOf 4 pg sts).obs s.abs := He.obsX_eq (HandSHeadRun.getT_eq s)
theorem run (w : World) : HandSHeadRun.RunEq R (PySem.W.view R.prog [28]) (hkOf 4 pg sts) ob 3000 loose w := by
  intro os
  kernel_rfl
theorem bd0 : Bnd1 f__wall (top 0) := fun _ _ _ _ _ _ us hl => match us, hl with | [_], _ => by rfl
theorem bd1 : Bnd1 f_is_integer (top 6) := fun _ _ _ _ _ _ us hl => match us, hl with | [_], _ => by rfl
theorem bd2 : Bnd1 f_is_count (top 7) := fun _ _ _ _ _ _ us hl => match us, hl with | [_], _ => by rfl
theorem bd3 : Bnd1 f_are_rising (top 8) := fun _ _ _ _ _ _ us hl => match us, hl with | [_], _ => by rfl
theorem bd4 : Bnd1 f_is_tuple_of (top 9) := fun _ _ _ _ _ _ us hl => match us, hl with | [_, _], _ => by rfl
theorem bd5 : Bnd1 f_is_lot (top 10) := fun _ _ _ _ _ _ us hl => match us, hl with | [_, _], _ => by rfl
theorem bd6 : Bnd1 f_ones_of (top 12) := fun _ _ _ _ _ _ us hl => match us, hl with | [_], _ => by rfl
theorem bd7 : Bnd1 f_row_of (top 13) := fun _ _ _ _ _ _ us hl => match us, hl with | [_, _], _ => by rfl
theorem bd8 : Bnd1 f_number_of_row (top 14) := fun _ _ _ _ _ _ us hl => match us, hl with | [_], _ => by rfl
theorem bd9 : Bnd1 f_made_row (top 15) := fun _ _ _ _ _ _ us hl => match us, hl with | [_, _], _ => by rfl
theorem bd10 : Bnd1 f_power_of_two (top 16) := fun _ _ _ _ _ _ us hl => match us, hl with | [_], _ => by rfl
theorem bd11 : Bnd1 f_row_by (top 17) := fun _ _ _ _ _ _ us hl => match us, hl with | [_, _], _ => by rfl
theorem bd12 : Bnd1 f_all_rows (top 18) := fun _ _ _ _ _ _ us hl => match us, hl with | [_], _ => by rfl
theorem bd13 : Bnd1 f_is_under (top 19) := fun _ _ _ _ _ _ us hl => match us, hl with | [_, _], _ => by rfl
theorem bd14 : Bnd1 f_unlike_columns (top 20) := fun _ _ _ _ _ _ us hl => match us, hl with | [_, _], _ => by rfl
theorem bd15 : Bnd1 f__law_bag (top 22) := fun _ _ _ _ _ _ us hl => match us, hl with | [_], _ => by rfl
theorem bd16 : Bnd1 f__law_take (top 23) := fun _ _ _ _ _ _ us hl => match us, hl with | [_, _], _ => by rfl
theorem bd17 : Bnd1 f__law_alike (top 24) := fun _ _ _ _ _ _ us hl => match us, hl with | [_, _], _ => by rfl
theorem bd18 : Bnd1 f__law_rows (top 25) := fun _ _ _ _ _ _ us hl => match us, hl with | [_], _ => by rfl
theorem bd19 : Bnd1 f__law_lot (top 26) := fun _ _ _ _ _ _ us hl => match us, hl with | [_, _], _ => by rfl
theorem bd20 : Bnd1 f__law_is_nothing (top 27) := fun _ _ _ _ _ _ us hl => match us, hl with | [_], _ => by rfl
theorem bd21 : Bnd1 f_law (top 28) := fun _ _ _ _ _ _ us hl => match us, hl with | [_], _ => by rfl
theorem bnd : BndOk pg sts := fun m fd st h1 h2 => bnd_all (fs := pg.fns) (ss := sts) (.cons bd0 (.cons bd1 (.cons bd2 (.cons bd3 (.cons bd4 (.cons bd5 (.cons bd6 (.cons bd7 (.cons bd8 (.cons bd9 (.cons bd10 (.cons bd11 (.cons bd12 (.cons bd13 (.cons bd14 (.cons bd15 (.cons bd16 (.cons bd17 (.cons bd18 (.cons bd19 (.cons bd20 (.cons bd21 .nil)))))))))))))))))))))) m fd st h1 h2
theorem tx : txtB pg sts = true := by decide +kernel
theorem lc : lawC pg sts n_law lb = true := by decide +kernel
end K01
/-- the end, from the plain law -/
theorem K01.fin {fuel : Nat} (hr : L2.Room (fuel + 3) PySem.callerA) (ev : ∀ ns : List Int, ns.length ≤ 63 → (∀ z ∈ ns, PySem.Builtin.Int.intBits z ≤ 1048576) → ∃ h', MI.runL K01.pg (fuel + 2) K01.f_law K01.lb [.ref 0] [.frz (ns.map .int)] = .ok (.bool true) h') : PySem.Challenge.rw_tableshapes_k01_whole_rows_and_lots.Holds := by
  open PySem PySem.W PySem.Calls PyProof.Rows in
  w_on; o_law
  refine HandSHeadRun.head_any (r := OpenLaw.row PySem.Challenge.rw_tableshapes_k01_whole_rows_and_lots) (q := view (OpenLaw.row PySem.Challenge.rw_tableshapes_k01_whole_rows_and_lots).prog [28]) (H := MI.hkOf 4 K01.pg K01.sts) (ob := K01.ob) (M := 3000) (loose := K01.loose) (d := HandSHeadRun.topDef (OpenLaw.row PySem.Challenge.rw_tableshapes_k01_whole_rows_and_lots).prog 28) (kwd := []) K01.ob_eq (by kernel_rfl) (fun s => by kernel_rfl) K01.run (by kernel_rfl) (by kernel_rfl) (by kernel_rfl) (by rfl) (by first | assumption | decide +kernel) (by decide +kernel) ⟨rfl, rfl, rfl, rfl, rfl, by decide +kernel⟩ ?hw ?hc
  case hw => w_witness2
  case hc => exact MI.walk_all (M := K01.pg) (sts := K01.sts) (N := 4) (fuel := fuel) (m0 := K01.n_law) (lb := K01.lb) (fd := K01.f_law) rfl (by decide) (by kernel_rfl) hr K01.tx K01.bnd rfl (by kernel_rfl) K01.lc ev
end
theorem PySem.Challenge.cw_tableshapes_k01_whole_rows_and_lots_holds : PySem.Challenge.rw_tableshapes_k01_whole_rows_and_lots.Holds := by
  exact K01.fin (fuel := 28) ⟨rfl, by decide +kernel, by decide +kernel⟩ fun ns _ _ => K01.ev ns
