import PyProof.Rows.All
import Wide.All
import OpenK.AllK
import Wide.FinOn
import HandS.ForMost
import HandS.Exc
import HandS.WordsExc
import HandS.Defaults
import HandS.Ends
import HandS.HeadEnd
import KE.KDictKeyed
import HandS.IsInst
import HandS.TupAny
import HandS.TupMul
import HandS.Deep
import HandS.TupLe
import HandS.Zip
import HandS.Zip0
import PyProof.EnumIter
import PyProof.ZipIter
import KE.SortData
import KE.DataCmp
import KE.KDictZip
import KE.KItemsList
import HandS.ListItems
import KE.KDictPairs
import KE.KDictDisplayH
import HandS.DictComp
import HandS.TryOnly
import HandS.Small
import HandS.More
import PyProof.ReprRoads
import PyProof.ReprLen
import PyProof.ReprText
import HandS.Style
import HandS.Head0
import HandS.Head1
import HandS.Head2
import HandS.HeadHook1
import HandS.HeadHook2
import KE.KStateDown
import HandS.Words
import PySem.Challenge.RW_tiltbeads_k04_loads_tilts_words
set_option Elab.async false
set_option linter.all false
set_option maxRecDepth 100000
set_option maxHeartbeats 0
/-! A small pure machine: values, a store, and combinators that say what a piece of Python computes. -/
namespace Dn
open PySem

inductive PV where
  | non | bl (b : Bool) | int (i : Int) | str (s : Str)
  | tup (xs : List PV) | lst (xs : List PV) | dic (t : Bool) (kvs : List (PV × PV)) | ref (n : Nat)
  /-- the script -/
  | scr (ns : List Int)
  deriving Inhabited

inductive PO where
  | lst (xs : List PV) | dic (t : Bool) (kvs : List (PV × PV)) | ins (c : Nat) (fs : List (Str × PV))

abbrev Store := List PO
abbrev Env := List (Option PV)

/-- an exception: its class, its fields -/
structure PX where
  c : Nat
  fs : List (Str × PV) := []

inductive Res (α : Type) where
  | ok (a : α) (st : Store) | exc (e : PX) (st : Store) | bad

def Res.bind {α β : Type} : Res α → (α → Store → Res β) → Res β
  | .ok a st, f => f a st
  | .exc e st, _ => .exc e st
  | .bad, _ => .bad
@[simp] theorem Res.bind_ok {α β : Type} (a : α) (st : Store) (f : α → Store → Res β) : (Res.ok a st).bind f = f a st := rfl
@[simp] theorem Res.bind_exc {α β : Type} (e : PX) (st : Store) (f : α → Store → Res β) : (Res.exc e st : Res α).bind f = .exc e st := rfl
@[simp] theorem Res.bind_bad {α β : Type} (f : α → Store → Res β) : (Res.bad : Res α).bind f = .bad := rfl
/-- nothing flies out -/
def Res.calm {α : Type} : Res α → Res α
  | .exc _ _ => .bad
  | r => r
@[simp] theorem Res.calm_ok {α : Type} (a : α) (st : Store) : (Res.ok a st).calm = .ok a st := rfl
/-- a partial pure step -/
def Res.of {α : Type} (st : Store) : Option α → Res α
  | some a => .ok a st
  | none => .bad
@[simp] theorem Res.of_some {α : Type} (st : Store) (a : α) : Res.of st (some a) = .ok a st := rfl
@[simp] theorem Res.of_none {α : Type} (st : Store) : Res.of st (none : Option α) = .bad := rfl

/-! ### texts, by their signs -/
def listEq : List Nat → List Nat → Bool
  | [], [] => true
  | a :: as, b :: bs => a.beq b && listEq as bs
  | _, _ => false
theorem listEq_iff : ∀ {a b : List Nat}, listEq a b = true ↔ a = b
  | [], [] => by simp [listEq]
  | [], _ :: _ => by simp [listEq]
  | _ :: _, [] => by simp [listEq]
  | a :: as, b :: bs => by
    simp only [listEq, Bool.and_eq_true, Nat.beq_eq, listEq_iff (a := as) (b := bs), List.cons.injEq]
def sEq (a b : Str) : Bool := listEq a.cps.toList b.cps.toList
theorem sEq_iff {a b : Str} : sEq a b = true ↔ a = b := by
  unfold sEq
  rw [listEq_iff]
  obtain ⟨⟨a⟩⟩ := a
  obtain ⟨⟨b⟩⟩ := b
  simp
@[simp] theorem sEq_self (a : Str) : sEq a a = true := sEq_iff.mpr rfl
theorem sEq_false {a b : Str} : sEq a b = false ↔ a ≠ b := by
  rw [← Bool.not_eq_true, sEq_iff]
def sLt : List Nat → List Nat → Bool
  | [], [] => false
  | [], _ :: _ => true
  | _ :: _, [] => false
  | a :: as, b :: bs => if a.beq b then sLt as bs else a.blt b

/-! ### values as data -/
def signsOk : List Nat → Bool
  | [] => true
  | c :: cs => Nat.blt c 1114112 && signsOk cs
mutual
/-- no ref in it -/
def plain : PV → Bool
  | .ref _ => false
  | .tup xs => plainL xs
  | .lst xs => plainL xs
  | .dic _ kvs => plainD kvs
  | .non => true
  | .bl _ => true
  | .int _ => true
  | .str _ => true
  | .scr _ => true
def plainL : List PV → Bool
  | [] => true
  | x :: xs => plain x && plainL xs
def plainD : List (PV × PV) → Bool
  | [] => true
  | (k, v) :: xs => plain k && plain v && plainD xs
end
mutual
/-- Python's == where both sides are data without dicts and objects -/
def eqv : PV → PV → Bool
  | .non, y => (match y with | .non => true | _ => false)
  | .bl a, y => (match y with | .bl b => a == b | .int j => decide ((if a then 1 else 0) = j) | _ => false)
  | .int i, y => (match y with | .int j => decide (i = j) | .bl b => decide (i = (if b then 1 else 0)) | _ => false)
  | .str a, y => (match y with | .str b => sEq a b | _ => false)
  | .tup xs, y => (match y with | .tup ys => eqvL xs ys | _ => false)
  | .lst xs, y => (match y with | .lst ys => eqvL xs ys | _ => false)
  | .dic _ _, _ => false
  | .ref _, _ => false
  | .scr _, _ => false
def eqvL : List PV → List PV → Bool
  | [], ys => (match ys with | [] => true | _ :: _ => false)
  | x :: xs, ys => (match ys with | [] => false | y :: ys => eqv x y && eqvL xs ys)
end
mutual
/-- data that == serves: no dict, no object, at most so deep -/
def flat : Nat → PV → Bool
  | n, .tup xs => (match n with | 0 => false | n + 1 => flatL n xs)
  | n, .lst xs => (match n with | 0 => false | n + 1 => flatL n xs)
  | _, .non => true
  | _, .bl _ => true
  | _, .int _ => true
  | _, .str s => signsOk s.cps.toList
  | _, .dic _ _ => false
  | _, .ref _ => false
  | _, .scr _ => false
def flatL : Nat → List PV → Bool
  | _, [] => true
  | n, x :: xs => flat n x && flatL n xs
end
/-- == -/
def eqP (x y : PV) : Option Bool := if flat 60 x && flat 60 y then some (eqv x y) else none

mutual
/-- structural sameness -/
def same : PV → PV → Bool
  | .non, y => (match y with | .non => true | _ => false)
  | .bl a, y => (match y with | .bl b => a == b | _ => false)
  | .int i, y => (match y with | .int j => decide (i = j) | _ => false)
  | .str a, y => (match y with | .str b => sEq a b | _ => false)
  | .tup xs, y => (match y with | .tup ys => sameL xs ys | _ => false)
  | .lst xs, y => (match y with | .lst ys => sameL xs ys | _ => false)
  | .dic t kvs, y => (match y with | .dic u lws => t == u && sameD kvs lws | _ => false)
  | .ref n, y => (match y with | .ref m => n.beq m | _ => false)
  | .scr ns, y => (match y with | .scr ms => decide (ns = ms) | _ => false)
def sameL : List PV → List PV → Bool
  | [], ys => (match ys with | [] => true | _ :: _ => false)
  | x :: xs, ys => (match ys with | [] => false | y :: ys => same x y && sameL xs ys)
def sameD : List (PV × PV) → List (PV × PV) → Bool
  | [], ys => (match ys with | [] => true | _ :: _ => false)
  | (a, b) :: xs, ys => (match ys with | [] => false | (c, d) :: ys => same a c && same b d && sameD xs ys)
end
mutual
theorem same_eq : ∀ {x y : PV}, same x y = true → x = y
  | .non, y, h => by cases y <;> simp_all [same]
  | .bl a, y, h => by cases y <;> simp_all [same]
  | .int i, y, h => by cases y <;> simp_all [same]
  | .str a, y, h => by cases y <;> simp_all [same, sEq_iff]
  | .tup xs, y, h => by
    cases y <;> simp only [same, Bool.false_eq_true] at h
    rw [sameL_eq h]
  | .lst xs, y, h => by
    cases y <;> simp only [same, Bool.false_eq_true] at h
    rw [sameL_eq h]
  | .dic t kvs, y, h => by
    cases y <;> simp only [same, Bool.false_eq_true, Bool.and_eq_true, beq_iff_eq] at h
    rw [h.1, sameD_eq h.2]
  | .ref n, y, h => by cases y <;> simp_all [same]
  | .scr n, y, h => by cases y <;> simp_all [same]
theorem sameL_eq : ∀ {x y : List PV}, sameL x y = true → x = y
  | [], y, h => by cases y <;> simp_all [sameL]
  | a :: x, y, h => by
    cases y with
    | nil => simp [sameL] at h
    | cons b y =>
      simp only [sameL, Bool.and_eq_true] at h
      rw [same_eq h.1, sameL_eq h.2]
theorem sameD_eq : ∀ {x y : List (PV × PV)}, sameD x y = true → x = y
  | [], y, h => by cases y <;> simp_all [sameD]
  | (a, b) :: x, y, h => by
    cases y with
    | nil => simp [sameD] at h
    | cons c y =>
      obtain ⟨c, d⟩ := c
      simp only [sameD, Bool.and_eq_true] at h
      rw [same_eq h.1.1, same_eq h.1.2, sameD_eq h.2]
end
mutual
theorem same_self : ∀ x : PV, same x x = true
  | .non => by simp [same]
  | .bl a => by simp [same]
  | .int i => by simp [same]
  | .str a => by simp [same]
  | .tup xs => by simp [same, sameL_self xs]
  | .lst xs => by simp [same, sameL_self xs]
  | .dic t kvs => by simp [same, sameD_self kvs]
  | .ref n => by simp [same]
  | .scr n => by simp [same]
theorem sameL_self : ∀ x : List PV, sameL x x = true
  | [] => by simp [sameL]
  | a :: x => by simp [sameL, same_self a, sameL_self x]
theorem sameD_self : ∀ x : List (PV × PV), sameD x x = true
  | [] => by simp [sameD]
  | (a, b) :: x => by simp [sameD, same_self a, same_self b, sameD_self x]
end

/-! ### order: shapes, and the order of values of one shape -/
inductive Sh where
  | int | str | row (s : Sh) | two (s t : Sh) | three (s t u : Sh)
mutual
/-- values of a shape: a row is a tuple of any length; two, three: tuples of so many -/
def has : Sh → PV → Bool
  | .int, .int _ => true
  | .str, .str _ => true
  | .row s, .tup xs => hasL s xs
  | .two s t, .tup [x, y] => has s x && has t y
  | .three s t u, .tup [x, y, z] => has s x && has t y && has u z
  | _, _ => false
def hasL : Sh → List PV → Bool
  | _, [] => true
  | s, x :: xs => has s x && hasL s xs
end
mutual
def lt : PV → PV → Bool
  | .int i, y => (match y with | .int j => decide (i < j) | _ => false)
  | .str a, y => (match y with | .str b => sLt a.cps.toList b.cps.toList | _ => false)
  | .tup xs, y => (match y with | .tup ys => ltL xs ys | _ => false)
  | _, _ => false
def ltL : List PV → List PV → Bool
  | [], ys => (match ys with | [] => false | _ :: _ => true)
  | x :: xs, ys => (match ys with | [] => false | y :: ys => if same x y then ltL xs ys else lt x y)
end
mutual
/-- of kinds that go together: numbers, texts, tuples of such, place by place -/
def akin : PV → PV → Bool
  | .int _, y => (match y with | .int _ => true | _ => false)
  | .str _, y => (match y with | .str _ => true | _ => false)
  | .tup xs, y => (match y with | .tup ys => akinL xs ys | _ => false)
  | _, _ => false
def akinL : List PV → List PV → Bool
  | [], _ => true
  | x :: xs, ys => (match ys with | [] => true | y :: ys => akin x y && akinL xs ys)
end
def Sh.deep : Sh → Nat
  | .int => 0
  | .str => 0
  | .row s => s.deep + 1
  | .two s t => max s.deep t.deep + 1
  | .three s t u => max s.deep (max t.deep u.deep) + 1
/-- such can be sorted: numbers, texts, tuples of two, three -/
def Sh.top (s : Sh) : Bool := match s with
  | .row _ => false
  | _ => Nat.ble s.deep 50
/-- sorted, stable -/
def sortP : List PV → List PV
  | [] => []
  | x :: xs => insB x (sortP xs)
where
  /-- ahead of those that are not less -/
  insB (x : PV) : List PV → List PV
    | [] => [x]
    | y :: ys => if lt y x then y :: insB x ys else x :: y :: ys

/-! ### reading -/
/-- what a ref names, to be read -/
def deref (st : Store) : PV → PV
  | .ref n => (match st[n]? with | some (.lst xs) => .lst xs | some (.dic t kvs) => .dic t kvs | _ => .ref n)
  | v => v
@[simp] theorem deref_int (st i) : deref st (.int i) = .int i := rfl
@[simp] theorem deref_bl (st i) : deref st (.bl i) = .bl i := rfl
@[simp] theorem deref_str (st i) : deref st (.str i) = .str i := rfl
@[simp] theorem deref_non (st) : deref st .non = .non := rfl
@[simp] theorem deref_tup (st i) : deref st (.tup i) = .tup i := rfl
@[simp] theorem deref_lst (st i) : deref st (.lst i) = .lst i := rfl
@[simp] theorem deref_scr (st i) : deref st (.scr i) = .scr i := rfl
@[simp] theorem deref_dic (st t i) : deref st (.dic t i) = .dic t i := rfl
/-- refs resolved, what they name to be changed no more -/
def freeze (st : Store) : Nat → PV → Option PV
  | 0, v => if plain v then some v else none
  | n + 1, .ref k => (match st[k]? with
      | some (.lst xs) => (xs.mapM (freeze st n)).map .lst
      | some (.dic t kvs) => (kvs.mapM fun (p : PV × PV) => (freeze st n p.1).bind fun a => (freeze st n p.2).map fun b => (a, b)).map (.dic t)
      | _ => none)
  | n + 1, .tup xs => if plainL xs then some (.tup xs) else (xs.mapM (freeze st n)).map .tup
  | n + 1, .lst xs => if plainL xs then some (.lst xs) else (xs.mapM (freeze st n)).map .lst
  | _ + 1, v => if plain v then some v else none
theorem freeze_plain (st : Store) (n : Nat) {v : PV} (h : plain v = true) : freeze st n v = some v := by
  cases n with
  | zero => simp [freeze, h]
  | succ n => cases v <;> simp_all [freeze, plain]

/-! ### places -/
def ixP (n : Nat) (i : Int) : Option Nat := if 0 ≤ i then (if i < n then some i.toNat else none) else if -(n : Int) ≤ i then some (i + n).toNat else none
def getL (xs : List PV) (i : Int) : Option PV := (ixP xs.length i).bind fun j => xs[j]?
def find (k : PV) : List (PV × PV) → Option PV
  | [] => none
  | (a, v) :: r => if eqv a k then some v else find k r
def put (k v : PV) (kvs : List (PV × PV)) : List (PV × PV) :=
  if kvs.any (fun p => eqv p.1 k) then kvs.map (fun p => if eqv p.1 k then (p.1, v) else p) else kvs ++ [(k, v)]
def fget (f : Str) : List (Str × PV) → Option PV
  | [] => none
  | (g, v) :: r => if sEq g f then some v else fget f r
def fput (f : Str) (v : PV) : List (Str × PV) → List (Str × PV)
  | [] => [(f, v)]
  | (g, w) :: r => if sEq g f then (g, v) :: r else (g, w) :: fput f v r
mutual
/-- a tuple that may be a key: numbers, texts, None, such tuples -/
def keyOk : Nat → PV → Bool
  | n, .tup xs => (match n with | 0 => false | n + 1 => keyOkL n xs)
  | _, .int _ => true
  | _, .str _ => true
  | _, _ => false
def keyOkL : Nat → List PV → Bool
  | _, [] => true
  | n, x :: xs => keyOk n x && keyOkL n xs
end
def keyT (t : Bool) (k : PV) : Bool := if t then (match k with | .tup _ => keyOk 8 k | _ => false) else (match k with | .int _ => true | .str _ => true | _ => false)

abbrev CS := Nat → List PV → Store → Res PV
abbrev DE := CS → Env → Store → Res PV
abbrev DEs := CS → Env → Store → Res (List PV)
inductive Flow where
  | nx | ret (v : PV) | brk | cnt
abbrev DS := CS → Env → Store → Res (Flow × Env)
abbrev DTg := CS → PV → Env → Store → Res Env
/-- what a loop walks: its items, and the list that must stand as it stands, where it is one that may change -/
abbrev DI := CS → Env → Store → Res (List PV × Option Nat)

namespace D
/-! ### expressions -/
def c (v : PV) : DE := fun _ _ st => .ok v st
def var (i : Nat) : DE := fun _ σ st => match σ[i]? with | some (some v) => .ok v st | _ => .bad
def nil : DEs := fun _ _ st => .ok [] st
def cons (e : DE) (es : DEs) : DEs := fun c σ st => (e c σ st).bind fun v st => (es c σ st).bind fun vs st => .ok (v :: vs) st
def tup (es : DEs) : DE := fun c σ st => (es c σ st).bind fun vs st => if vs.length ≤ 1000000 then .ok (.tup vs) st else .bad
def lst (es : DEs) : DE := fun c σ st => (es c σ st).bind fun vs st => if vs.length ≤ 1000000 then .ok (.lst vs) st else .bad
/-- a list, a dict that was made just now, laid into the store -/
def fresh (e : DE) : DE := fun c σ st => (e c σ st).bind fun v st => match v with
  | .lst xs => .ok (.ref st.length) (st ++ [.lst xs])
  | .dic t kvs => .ok (.ref st.length) (st ++ [.dic t kvs])
  | _ => .bad
def op1 (f : PV → Option PV) (a : DE) : DE := fun c σ st => (a c σ st).bind fun x st => .of st (f (deref st x))
def op2 (f : PV → PV → Option PV) (a b : DE) : DE := fun c σ st => (a c σ st).bind fun x st => (b c σ st).bind fun y st => .of st (f (deref st x) (deref st y))
def isT : PV → Option Bool
  | .bl b => some b
  | _ => none
def and (a b : DE) : DE := fun c σ st => (a c σ st).bind fun x st => match x with | .bl true => b c σ st | .bl false => .ok (.bl false) st | _ => .bad
def or (a b : DE) : DE := fun c σ st => (a c σ st).bind fun x st => match x with | .bl true => .ok (.bl true) st | .bl false => b c σ st | _ => .bad
def not (a : DE) : DE := fun c σ st => (a c σ st).bind fun x st => match x with | .bl b => .ok (.bl (!b)) st | _ => .bad
def ite (t a b : DE) : DE := fun c σ st => (t c σ st).bind fun x st => match x with | .bl true => a c σ st | .bl false => b c σ st | _ => .bad
/-- a < b < c -/
def chain (f g : PV → PV → Option PV) (a b d : DE) : DE := fun c σ st => (a c σ st).bind fun x st => (b c σ st).bind fun y st =>
  (Res.of st (f (deref st x) (deref st y))).bind fun z st => match z with
    | .bl true => (d c σ st).bind fun w st => .of st (g (deref st y) (deref st w))
    | .bl false => .ok (.bl false) st
    | _ => .bad
def attr (C : Nat) (o : DE) (f : Str) : DE := fun c σ st => (o c σ st).bind fun x st => match x with
  | .ref n => (match st[n]? with | some (.ins C' fs) => if C'.beq C then .of st (fget f fs) else .bad | _ => .bad)
  | _ => .bad
/-- f(..), the defaults dfl behind -/
def call (f : Nat) (es : DEs) (dfl : List PV := []) : DE := fun c σ st => (es c σ st).bind fun vs st => c f (vs ++ dfl) st
/-- C(..), its __init__ f -/
def new (C f : Nat) (es : DEs) (dfl : List PV := []) : DE := fun c σ st => (es c σ st).bind fun vs st =>
  (c f (.ref st.length :: (vs ++ dfl)) (st ++ [.ins C []])).bind fun v st' => match v with | .non => .ok (.ref st.length) st' | _ => .bad
/-- o.m(..), o an instance of C, m its def f -/
def meth (C f : Nat) (m : Str) (o : DE) (es : DEs) (dfl : List PV := []) : DE := fun c σ st => (o c σ st).bind fun x st => match x with
  | .ref n => (match st[n]? with
      | some (.ins C' fs) => if C'.beq C && (fget m fs).isNone then (es c σ st).bind fun vs st => c f (.ref n :: (vs ++ dfl)) st else .bad
      | _ => .bad)
  | _ => .bad
def lstAt (st : Store) : PV → Bool
  | .ref n => (match st[n]? with | some (.lst _) => true | _ => false)
  | _ => false
def append (o e : DE) : DE := fun c σ st => (o c σ st).bind fun x st => if lstAt st x then (e c σ st).bind fun v st => match x with
    | .ref n => (match st[n]? with | some (.lst xs) => if xs.length < 1000000 then .ok .non (st.set n (.lst (xs ++ [v]))) else .bad | _ => .bad)
    | _ => .bad
  else .bad
def extend (o e : DE) : DE := fun c σ st => (o c σ st).bind fun x st => if lstAt st x then (e c σ st).bind fun v st => match x with
    | .ref n => (match st[n]?, deref st v with
        | some (.lst xs), .lst ys => if xs.length + ys.length < 1000000 then .ok .non (st.set n (.lst (xs ++ ys))) else .bad
        | _, _ => .bad)
    | _ => .bad
  else .bad
def dicAt (st : Store) (x : PV) : Bool := match deref st x with
  | .dic _ _ => true
  | _ => false
def get2 (o k d : DE) : DE := fun c σ st => (o c σ st).bind fun x st => if dicAt st x then (k c σ st).bind fun y st => (d c σ st).bind fun z st =>
    (match deref st x with
    | .dic t kvs => if keyT t y then .ok ((find y kvs).getD z) st else .bad
    | _ => .bad)
  else .bad
/-- a way that is not gone -/
def stuck : DS := fun _ _ _ => .bad
/-! ### walks, comprehensions -/
def walk (e : DE) : DI := fun c σ st => (e c σ st).bind fun x st => match x with
  | .tup xs => .ok (xs, none) st
  | .lst xs => .ok (xs, none) st
  | .scr ns => .ok (ns.map .int, none) st
  | .ref n => (match st[n]? with | some (.lst xs) => .ok (xs, some n) st | _ => .bad)
  | _ => .bad
def zipP : List PV → List PV → List PV
  | x :: xs, y :: ys => .tup [x, y] :: zipP xs ys
  | _, _ => []
def zip (a b : DE) : DI := fun c σ st => (a c σ st).bind fun x st => (b c σ st).bind fun y st => match x, y with
  | .tup xs, .tup ys => .ok (zipP xs ys, none) st
  | .lst xs, .lst ys => .ok (zipP xs ys, none) st
  | _, _ => .bad
/-- list(zip(a, b)) -/
def lzip (a b : DE) : DE := fun c σ st => (a c σ st).bind fun x st => (b c σ st).bind fun y st => match x, y with
  | .tup xs, .tup ys => .ok (.lst (zipP xs ys)) st
  | _, _ => .bad
def upP (lo : Int) : Nat → List PV
  | 0 => []
  | n + 1 => .int lo :: upP (lo + 1) n
def range1 (a : DE) : DI := fun c σ st => (a c σ st).bind fun x st => match x with
  | .int j => if -1000000 < j && j < 1000000 then .ok (upP 0 j.toNat, none) st else .bad
  | _ => .bad
def range2 (a b : DE) : DI := fun c σ st => (a c σ st).bind fun x st => (b c σ st).bind fun y st => match x, y with
  | .int i, .int j => if (-1000000 < i && i < 1000000) && (-1000000 < j && j < 1000000) then .ok (upP i (j - i).toNat, none) st else .bad
  | _, _ => .bad
/-- the list n still is xs -/
def stands (n : Option Nat) (xs : List PV) (st : Store) : Bool := match n with
  | none => true
  | some n => (match st[n]? with | some (.lst ys) => sameL ys xs | _ => false)
def tests (ts : List DE) : CS → Env → Store → Res Bool := fun c σ st => match ts with
  | [] => .ok true st
  | [t] => (t c σ st).bind fun x st => match x with | .bl b => .ok b st | _ => .bad
  | _ => .bad
def lcL (tg : DTg) (ts : List DE) (e : DE) (c : CS) (σ : Env) (src : Option Nat) (all : List PV) : List PV → Store → Res (List PV)
  | [], st => if stands src all st then .ok [] st else .bad
  | x :: xs, st => if stands src all st then (tg c x σ st).bind fun σ1 st => (tests ts c σ1 st).bind fun b st =>
      if b then (e c σ1 st).bind fun y st => (lcL tg ts e c σ src all xs st).bind fun ys st => .ok (y :: ys) st
      else lcL tg ts e c σ src all xs st
    else .bad
def wipe (σ : Env) : List Nat → Env
  | [] => σ
  | v :: vs => (wipe σ vs).set v none
def lc (own : List Nat) (it : DI) (tg : DTg) (ts : List DE) (e : DE) : DE := fun c σ st => (it c σ st).bind fun p st =>
  if p.1.length ≤ 1000000 then (lcL tg ts e c (wipe σ own) p.2 p.1 p.1 st).calm.bind fun ys st => .ok (.lst ys) st else .bad
def dcL (t : Bool) (tg : DTg) (k e : DE) (c : CS) (σ : Env) : List PV → List (PV × PV) → Store → Res (List (PV × PV))
  | [], acc, st => .ok acc st
  | x :: xs, acc, st => (tg c x σ st).bind fun σ1 st => (k c σ1 st).bind fun y st => (e c σ1 st).bind fun z st =>
      if keyT t y then dcL t tg k e c σ xs (put y z acc) st else .bad
def dc (t : Bool) (own : List Nat) (it : DI) (tg : DTg) (k e : DE) : DE := fun c σ st => (it c σ st).bind fun p st =>
  if p.2.isNone && decide (p.1.length ≤ 1000000) then (dcL t tg k e c (wipe σ own) p.1 [] st).calm.bind fun kvs st => .ok (.dic t kvs) st else .bad
/-! ### dicts -/
def pairs (t : Bool) : List PV → List (PV × PV) → Option (List (PV × PV))
  | [], acc => some acc
  | .tup [k, v] :: r, acc => if keyT t k then pairs t r (put k v acc) else none
  | _ :: _, _ => none
/-- {}, {k: v, ..} -/
def dictL (t : Bool) : List (DE × DE) → List (PV × PV) → CS → Env → Store → Res (List (PV × PV))
  | [], acc, _, _, st => .ok acc st
  | (k, v) :: r, acc, c, σ, st => (k c σ st).bind fun x st => (v c σ st).bind fun y st => if keyT t x then dictL t r (put x y acc) c σ st else .bad
def dict (t : Bool) (ps : List (DE × DE)) : DE := fun c σ st => (dictL t ps [] c σ st).calm.bind fun kvs st => .ok (.dic t kvs) st
/-! ### targets -/
def tn (i : Nat) : DTg := fun _ v σ st => .ok (σ.set i (some v)) st
def tts (ts : List DTg) : CS → List PV → Env → Store → Res Env := fun c vs σ st => match ts, vs with
  | [], [] => .ok σ st
  | t :: ts, v :: vs => (t c v σ st).bind fun σ st => tts ts c vs σ st
  | _, _ => .bad
def tt (ts : List DTg) : DTg := fun c v σ st => match deref st v with
  | .tup xs => if xs.length.beq ts.length then tts ts c xs σ st else .bad
  | .lst xs => if xs.length.beq ts.length then tts ts c xs σ st else .bad
  | _ => .bad
def store (st : Store) (x y v : PV) : Option Store := match x with
  | .ref n => (match st[n]? with
      | some (.lst xs) => (match y with | .int i => (ixP xs.length i).map fun j => st.set n (.lst (xs.set j v)) | _ => none)
      | some (.dic t kvs) => if keyT t y && decide (kvs.length < 1000000) then some (st.set n (.dic t (put y v kvs))) else none
      | _ => none)
  | _ => none
def tsub (o i : DE) : DTg := fun c v σ st => (o c σ st).bind fun x st => (i c σ st).bind fun y st => match store st x y v with
  | some st' => .ok σ st'
  | none => .bad
def tattr (C : Nat) (o : DE) (f : Str) : DTg := fun c v σ st => (o c σ st).bind fun x st => match x with
  | .ref n => (match st[n]? with | some (.ins C' fs) => if C'.beq C && decide (fs.length < 1000) then .ok σ (st.set n (.ins C' (fput f v fs))) else .bad | _ => .bad)
  | _ => .bad
/-! ### statements -/
def pass : DS := fun _ σ st => .ok (.nx, σ) st
def brk : DS := fun _ σ st => .ok (.brk, σ) st
def cnt : DS := fun _ σ st => .ok (.cnt, σ) st
def seq (a b : DS) : DS := fun c σ st => (a c σ st).bind fun p st => match p.1 with
  | .nx => b c p.2 st
  | _ => .ok p st
def expr (e : DE) : DS := fun c σ st => (e c σ st).bind fun _ st => .ok (.nx, σ) st
def ret (e : DE) : DS := fun c σ st => (e c σ st).bind fun v st => .ok (.ret v, σ) st
def asg (tg : DTg) (e : DE) : DS := fun c σ st => (e c σ st).bind fun v st => (tg c v σ st).bind fun σ st => .ok (.nx, σ) st
/-- x, y = a, b of plain names -/
def par (i j : Nat) (a b : DE) : DS := fun c σ st => (a c σ st).bind fun v st => (b c σ st).bind fun w st => .ok (.nx, (σ.set i (some v)).set j (some w)) st
def par3 (i j l : Nat) (a b d : DE) : DS := fun c σ st => (a c σ st).bind fun v st => (b c σ st).bind fun w st => (d c σ st).bind fun u st => .ok (.nx, ((σ.set i (some v)).set j (some w)).set l (some u)) st
def cond (t : DE) (a b : DS) : DS := fun c σ st => (t c σ st).bind fun x st => match x with | .bl true => a c σ st | .bl false => b c σ st | _ => .bad
def forL (tg : DTg) (body : DS) (c : CS) (src : Option Nat) (all : List PV) : List PV → Env → Store → Res (Flow × Env)
  | [], σ, st => if stands src all st then .ok (.nx, σ) st else .bad
  | x :: xs, σ, st => if stands src all st then (tg c x σ st).bind fun σ st => (body c σ st).bind fun p st => match p.1 with
      | .nx => forL tg body c src all xs p.2 st
      | .cnt => forL tg body c src all xs p.2 st
      | .brk => .ok (.nx, p.2) st
      | .ret v => .ok (.ret v, p.2) st
    else .bad
def «for» (tg : DTg) (it : DI) (body : DS) : DS := fun c σ st => (it c σ st).bind fun p st => forL tg body c p.2 p.1 p.1 σ st
def whileL (t : DE) (body : DS) (c : CS) : Nat → Env → Store → Res (Flow × Env)
  | 0, _, _ => .bad
  | n + 1, σ, st => (t c σ st).bind fun x st => match x with
      | .bl true => (body c σ st).bind fun p st => (match p.1 with
          | .nx => whileL t body c n p.2 st
          | .cnt => whileL t body c n p.2 st
          | .brk => .ok (.nx, p.2) st
          | .ret v => .ok (.ret v, p.2) st)
      | .bl false => .ok (.nx, σ) st
      | _ => .bad
def «while» (n : Nat) (t : DE) (body : DS) : DS := fun c σ st => whileL t body c n σ st
end D

/-! ### defs -/
structure FnD where
  np : Nat
  size : Nat
  pure : Bool
  body : DS
def start (n : Nat) (vs : List PV) : Env := vs.map some ++ List.replicate (n - vs.length) none
def retOf : Flow → Option PV
  | .nx => some .non
  | .ret v => some v
  | _ => none
def runFn (d : FnD) (c : CS) (vs : List PV) (st : Store) : Res PV :=
  if vs.length.beq d.np then
    if d.pure then
      if plainL vs then
        match d.body c (start d.size vs) [] with
        | .ok p st' => Res.of st ((retOf p.1).bind (freeze st' 4))
        | .exc e _ => .exc e st
        | .bad => .bad
      else .bad
    else (d.body c (start d.size vs) st).bind fun p st' => Res.of st' (retOf p.1)
  else .bad
def callN (tbl : Nat → Option FnD) : Nat → CS
  | 0 => fun _ _ _ => .bad
  | n + 1 => fun f vs st => match tbl f with
      | some d => runFn d (callN tbl n) vs st
      | none => .bad

/-! ### operators by values -/
namespace O
def I : PV → Option Int
  | .int i => some i
  | _ => none
def small (i : Int) : Bool := -18446744073709551616 < i && i < 18446744073709551616
def add : PV → PV → Option PV
  | .int i, .int j => some (.int (i + j))
  | .tup xs, .tup ys => if xs.length + ys.length ≤ 1000000 then some (.tup (xs ++ ys)) else none
  | .lst xs, .lst ys => if xs.length + ys.length ≤ 1000000 then some (.lst (xs ++ ys)) else none
  | .str a, .str b => if a.length + b.length ≤ 1000000 then some (.str (a ++ b)) else none
  | _, _ => none
def sub : PV → PV → Option PV
  | .int i, .int j => some (.int (i - j))
  | _, _ => none
def mul : PV → PV → Option PV
  | .int i, .int j => if small i || small j then some (.int (i * j)) else none
  | .tup xs, .int k => if decide (xs ≠ []) && (decide (2 ≤ k) && (decide (k ≤ 1000) && decide (xs.length ≤ 1000))) then some (.tup (List.replicate k.toNat xs).flatten) else none
  | _, _ => none
instance (xs : List PV) : Decidable (xs ≠ []) := match xs with
  | [] => isFalse fun h => h rfl
  | _ :: _ => isTrue fun h => nomatch h
def fdiv : PV → PV → Option PV
  | .int i, .int j => if decide (0 < j) && decide (j < 1073741824) then some (.int (i / j)) else none
  | _, _ => none
def mod : PV → PV → Option PV
  | .int i, .int j => if decide (0 < j) then some (.int (i % j)) else none
  | _, _ => none
def pow : PV → PV → Option PV
  | .int i, .int j => if decide (0 ≤ j) && (decide (j ≤ 1000) && small i) then some (.int (i ^ j.toNat)) else none
  | _, _ => none
def neg : PV → Option PV
  | .int i => some (.int (-i))
  | _ => none
def lt : PV → PV → Option PV
  | .int i, .int j => some (.bl (decide (i < j)))
  | .tup xs, .tup ys => if (flatL 59 xs && flatL 59 ys) && akinL xs ys then some (.bl (ltL xs ys)) else none
  | _, _ => none
def le : PV → PV → Option PV
  | .int i, .int j => some (.bl (decide (i ≤ j)))
  | .tup xs, .tup ys => if (flatL 59 xs && flatL 59 ys) && akinL ys xs then some (.bl (!ltL ys xs)) else none
  | _, _ => none
def gt : PV → PV → Option PV
  | .int i, .int j => some (.bl (decide (j < i)))
  | _, _ => none
def eq (x y : PV) : Option PV := (eqP x y).map .bl
def ne (x y : PV) : Option PV := (eqP x y).map fun b => .bl (!b)
def isB : PV → PV → Option PV
  | .bl a, .bl b => some (.bl (a == b))
  | _, _ => none
def isN : PV → PV → Option PV
  | .non, .non => some (.bl true)
  | _, .non => some (.bl false)
  | _, _ => none
def inB (x : PV) : PV → Option Bool
  | .tup xs => if flat 59 x && flatL 59 xs then some (xs.any fun y => eqv y x) else none
  | .lst xs => if flat 59 x && flatL 59 xs then some (xs.any fun y => eqv y x) else none
  | .dic t kvs => if keyT t x then some (find x kvs).isSome else none
  | _ => none
def isNot (x y : PV) : Option PV := match isN x y with
  | some (.bl b) => some (.bl (!b))
  | _ => none
def isBot (x y : PV) : Option PV := match isB x y with
  | some (.bl b) => some (.bl (!b))
  | _ => none
def «in» (x y : PV) : Option PV := (inB x y).map .bl
def notIn (x y : PV) : Option PV := (inB x y).map fun b => .bl (!b)
def item : PV → PV → Option PV
  | .tup xs, .int i => getL xs i
  | .lst xs, .int i => getL xs i
  | .scr ns, .int i => getL (ns.map .int) i
  | .dic t kvs, k => if keyT t k then find k kvs else none
  | _, _ => none
def sIx (n : Nat) (dflt : Nat) : Option Int → Nat
  | none => dflt
  | some i => if i < 0 then (i + (n : Int)).toNat else min i.toNat n
def cut (xs : List PV) (lo hi : Option Int) : List PV := (xs.drop (sIx xs.length 0 lo)).take (sIx xs.length xs.length hi - sIx xs.length 0 lo)
def slice (x : PV) (lo hi : Option Int) : Option PV := match x with
  | .tup xs => some (.tup (cut xs lo hi))
  | .lst xs => some (.lst (cut xs lo hi))
  | .scr ns => some (.lst (cut (ns.map .int) lo hi))
  | _ => none
def len : PV → Option PV
  | .tup xs => some (.int xs.length)
  | .lst xs => some (.int xs.length)
  | .scr ns => some (.int ns.length)
  | .dic _ kvs => some (.int kvs.length)
  | _ => none
def isTup : PV → Option PV
  | .tup _ => some (.bl true)
  | .dic true _ => none
  | .scr _ => none
  | .ref _ => none
  | _ => some (.bl false)
def isInt : PV → Option PV
  | .int _ => some (.bl true)
  | .bl _ => some (.bl true)
  | .dic true _ => none
  | .scr _ => none
  | .ref _ => none
  | _ => some (.bl false)
def isBool : PV → Option PV
  | .bl _ => some (.bl true)
  | .dic true _ => none
  | .scr _ => none
  | .ref _ => none
  | _ => some (.bl false)
def bools : List PV → Option (List Bool)
  | [] => some []
  | .bl b :: r => (bools r).map (b :: ·)
  | _ :: _ => none
def intsP : List PV → Option (List Int)
  | [] => some []
  | .int b :: r => (intsP r).map (b :: ·)
  | _ :: _ => none
def all : PV → Option PV
  | .lst xs => (bools xs).map fun bs => .bl (bs.all id)
  | _ => none
def sum : PV → Option PV
  | .lst xs => (intsP xs).map fun is => .int is.sum
  | _ => none
def max2 : PV → PV → Option PV
  | .int i, .int j => some (.int (if j > i then j else i))
  | _, _ => none
def min2 : PV → PV → Option PV
  | .int i, .int j => some (.int (if j < i then j else i))
  | _, _ => none
def tuple : PV → Option PV
  | .lst xs => some (.tup xs)
  | .tup xs => some (.tup xs)
  | _ => none
def list : PV → Option PV
  | .lst xs => some (.lst xs)
  | .tup xs => some (.lst xs)
  | _ => none
def sorted (s : Sh) : PV → Option PV
  | .lst xs => if s.top && hasL s xs && xs.length.ble 1000000 then some (.lst (sortP xs)) else none
  | .tup xs => if s.top && hasL s xs && xs.length.ble 1000000 then some (.lst (sortP xs)) else none
  | _ => none
def dictOf (t : Bool) : PV → Option PV
  | .lst xs => (D.pairs t xs []).map (.dic t)
  | _ => none
end O
namespace D
/-- an end of a slice -/
def part (c : CS) (σ : Env) (d : Option DE) (k : Option Int → Store → Res PV) (st : Store) : Res PV := match d with
  | none => k none st
  | some d => (d c σ st).bind fun v st => match v with | .int i => k (some i) st | _ => .bad
/-- a slice with written or left out ends -/
def slice (e : DE) (lo hi : Option DE) : DE := fun c σ st => (e c σ st).bind fun x st =>
  part c σ lo (fun l st => part c σ hi (fun h st => .of st (O.slice (deref st x) l h)) st) st
end D
/-- True comes out -/
def isTrueR : Res PV → Bool
  | .ok (.bl true) _ => true
  | _ => false
end Dn

/-! Promises of defs that hold where no repr is running: the layer's rules of calls, for such. -/
namespace L2
open PySem PySem.Spec PyProof.Rows
/-- nothing that shows an object runs around -/
def NoG (A : Around) : Prop := A.guards = some []
theorem NoG.deeper {A : Around} {env : Env} (g : NoG A) : NoG (A.deeper env) := g
theorem NoG.make {A : Around} (g : NoG A) (C : Addr) (us : List Value) (kw : List (Str × Value)) : NoG (A.under (.builtin "type.__call__" ⟨.ref C :: us, kw⟩)) := by
  unfold NoG at *
  simpa [Around.under, Code.guards, Code.isGuard, pushGuards, guardIds] using g
structure FnG (prog : Program) (wo : World) (fr : PySem.W.Frag) (mg : Str → Option Value) (bs : Heap) (ways : CXT) (lv : Nat) (at_ : Addr) (fd : FuncData) (names : List Str) (prom : Sp) : Prop where
  len : ∀ xs h q x, prom xs h q x → xs.length = names.length
  run : ∀ (ar : Around) (out : List Env) (s0 : Shared) (h : Hp) (given : Args) (bound : List Value) (xs : List V) (q : VK) (x : XK), NoG ar → Room lv ar → Env0 prog wo fr mg bs ar out s0 h → BindsTo s0 fd given (names.zip bound) → Vals xs bound → prom xs h q x →
    codeAny (model prog wo) ar (.call (.ref at_) given) (CR ways out prog wo h s0 q x) s0
section
variable {X : Cx} {ways : CXT} {lv : Nat} {fa C : Addr} {fd : FuncData} {names : List Str} {prom : Sp} {dv : List V} {dvl : List Value} {x : XK} {nm m : Str} {p pos apos kpos : Pos} {e o : Expr} {es : List Expr} {ta : TE} {t : TA}
variable {pins : List (Addr × Obj)} {σ : St} {H : Hp} {s : Shared} {Q : VK} {us : List Value} {vs : List V}
/-- the end of such a call, where it stands -/
def EndG (X : Cx) (pins : List (Addr × Obj)) (σ : St) (Q : VK) (r : Result) (s' : Shared) : Prop := match r with
    | .ok (.ret u) => EP X pins σ Q u s'
    | .ok _ => False
    | .error b => X.xe b s'
theorem end_g {r : Result} {s' : Shared} (pa : Passes ways X x) (I : Inv X pins σ H s) (z : CR ways X.stack X.prog X.w H s Q x r s') : EndG X pins σ Q r s' := by
  match r, z with
  | .ok (.ret u), z => exact I.after z
  | .error b, z => exact pa pins σ H s b s' I z
theorem run_g (F : FnG X.prog X.w X.K X.mg X.base ways lv fa fd names prom) (ng : NoG X.A) (ro : Room lv X.A) (bi : Binds X.K fd names dvl) (dd : Vals dv dvl) (pa : Passes ways X x)
    (I : Inv X pins σ H s) (rv : Vals vs us) (pr : prom (vs ++ dv) H Q x) : wpAny (model X.prog X.w) X.A (call (.ref fa) us) (EP X pins σ Q) X.xe s := by
  have both := rv.append dd
  have eq : (us ++ dvl).length = names.length := by
    have := F.len _ _ _ _ pr
    rw [both.length] at this
    exact this
  refine wpAny_call (codeAny_mono (F.run _ _ _ _ ⟨us, []⟩ _ _ _ _ ng ro I.env0 (bi s us I.kIn eq) both pr) fun r s' z => ?_)
  have en := end_g pa I z
  match r, en with
  | .ok (.ret u), en => exact en
  | .ok .next, en => exact False.elim en
  | .ok .brk, en => exact False.elim en
  | .ok .cont, en => exact False.elim en
  | .error b, en => exact en
theorem g_call (F : FnG X.prog X.w X.K X.mg X.base ways lv fa fd names prom) (ng : NoG X.A) (ro : Room lv X.A) (gl : Gl X nm) (at_ : X.mg nm = some (.ref fa)) (ke : PySem.W.keepIn X.K (.ref fa) = true) (bi : Binds X.K fd names dvl) (dd : Vals dv dvl) (pa : Passes ways X x)
    (ar : PA X (e :: es) t) (nd : (nm == ("__debug__" : Str)) = false) (st : starEach (e :: es) X.env = (false, eval e X.env) :: starEach es X.env) (pl : (backTo pos (starEach es X.env)).any (·.1) = false) :
    PE X (.Call (.Name nm p) (e :: es) [] pos) (tCall prom dv x t) :=
  ⟨fun pins s σ H Q I z => wpAny_Call_Name_kw (ld_glob I gl at_ (PySem.W.callWith_K (h₀ := X.base) I.ok.mod.kin ke (thn (ar.run pos pins s σ H _ I z) fun us s1 ⟨vs, H1, J, rv, pr⟩ => ⟨J.kIn, run_g F ng ro bi dd pa J rv pr⟩) st pl) nd)⟩
theorem g_call0 (F : FnG X.prog X.w X.K X.mg X.base ways lv fa fd names prom) (ng : NoG X.A) (ro : Room lv X.A) (gl : Gl X nm) (at_ : X.mg nm = some (.ref fa)) (ke : PySem.W.keepIn X.K (.ref fa) = true) (bi : Binds X.K fd names dvl) (dd : Vals dv dvl) (pa : Passes ways X x)
    (nd : (nm == ("__debug__" : Str)) = false) : PE X (.Call (.Name nm p) [] [] pos) (tCall prom dv x tNil) :=
  ⟨fun pins s σ H Q I z => wpAny_Call_Name_kw (ld_glob I gl at_ (PySem.W.callWith_K0 I.kIn ke (run_g (us := []) F ng ro bi dd pa I .nil z)) nd)⟩
theorem g_meth {pl : Sem Bool} (ob : PE X o ta) (cl : Cls X.K C) (mt : Meth X.K C m fa) (F : FnG X.prog X.w X.K X.mg X.base ways lv fa fd names prom) (ng : NoG X.A) (ro : Room lv X.A) (bi : Binds X.K fd names dvl) (dd : Vals dv dvl) (pa : Passes ways X x) (ar : PA X (e :: es) t)
    (st : starEach (e :: es) X.env = (false, eval e X.env) :: starEach es X.env) (pn : (backTo pos (starEach es X.env)).any (·.1) = false)
    (ev : eval (.Call (.Attribute o m apos) (e :: es) [] pos) X.env = (do let ov ← eval o X.env; standAt apos.atName; let (f, first) ← holding [ov] (getMethod ov m pl); callWith pos f first (backTo pos (starEach (e :: es) X.env)) (backToKw pos (keywordEach [] X.env)))) :
    PE X (.Call (.Attribute o m apos) (e :: es) [] pos) (tMeth C m prom dv x ta t) := by
  refine ⟨fun pins s σ H Q I z => PySem.W.methodCall_KW (pl := pl) (thn (ob.run pins s σ H _ I z) fun u s1 ⟨y, H1, J, ry, a, dx, fs, ey, ha, hl, z1⟩ => ?_) ev⟩
  subst ey
  have eu : u = Value.ref a := ry
  subst eu
  exact getmeth_ok J ha cl mt hl (PySem.W.callWith_K (first := [.ref a]) (h₀ := X.base) I.ok.mod.kin mt.kp (thn (ar.run pos pins s1 σ H1 _ J z1) fun us s2 ⟨vs, H2, J2, rv, pr⟩ => ⟨J2.kIn, run_g (us := .ref a :: us) (vs := .ref a :: vs) F ng ro bi dd pa J2 (.cons rfl rv) pr⟩) st pn)
theorem g_meth0 {pl : Sem Bool} (ob : PE X o ta) (cl : Cls X.K C) (mt : Meth X.K C m fa) (F : FnG X.prog X.w X.K X.mg X.base ways lv fa fd names prom) (ng : NoG X.A) (ro : Room lv X.A) (bi : Binds X.K fd names dvl) (dd : Vals dv dvl) (pa : Passes ways X x)
    (ev : eval (.Call (.Attribute o m apos) [] [] pos) X.env = (do let ov ← eval o X.env; standAt apos.atName; let (f, first) ← holding [ov] (getMethod ov m pl); callWith pos f first (backTo pos (starEach [] X.env)) (backToKw pos (keywordEach [] X.env)))) :
    PE X (.Call (.Attribute o m apos) [] [] pos) (tMeth C m prom dv x ta tNil) := by
  refine ⟨fun pins s σ H Q I z => PySem.W.methodCall_KW (pl := pl) (thn (ob.run pins s σ H _ I z) fun u s1 ⟨y, H1, J, ry, a, dx, fs, ey, ha, hl, z1⟩ => ?_) ev⟩
  subst ey
  have eu : u = Value.ref a := ry
  subst eu
  exact getmeth_ok J ha cl mt hl (PySem.W.callWith_K0 (first := [.ref a]) J.kIn mt.kp (run_g (us := [.ref a]) (vs := [.ref a]) F ng ro bi dd pa J (.cons rfl .nil) z1))
theorem make_g (mk : Mk X.K C fa) (F : FnG X.prog X.w X.K X.mg X.base ways lv fa fd names prom) (ng : NoG X.A) (ro : Room (lv + 1) X.A) (bi : Binds X.K fd names dvl) (dd : Vals dv dvl) (pa : Passes ways X x) (I : Inv X pins σ H s) (rv : Vals vs us)
    (pr : ∀ y dy, H y = none → H dy = none → dy ≠ y → prom (.ref y :: (vs ++ dv)) (upd (upd H dy (.own y)) y (.ins C dy [])) (fun v H2 => v = .non ∧ Q (.ref y) H2) x) : wpAny (model X.prog X.w) X.A (call (.ref C) us) (EP X pins σ Q) X.xe s := by
  have z := pr _ _ (I.hok.fresh (Nat.le_succ s.heap.objs.size)) (I.hok.fresh (Nat.le_refl s.heap.objs.size)) (Nat.ne_of_lt (Nat.lt_succ_self _))
  have J := Inv.made (C := C) I
  have both : Vals (V.ref (s.heap.objs.size + 1) :: (vs ++ dv)) (Value.ref (s.heap.objs.size + 1) :: (us ++ dvl)) := .cons rfl (rv.append dd)
  have eq : (Value.ref (s.heap.objs.size + 1) :: us ++ dvl).length = names.length := (both.length.symm.trans (F.len _ _ _ _ z))
  refine wpAny_call (make_map (f := fa) I.kIn mk.makes mk.init (beq_iff_eq.mp mk.fn) (codeAny_mono (F.run _ X.stack _ _ ⟨Value.ref (s.heap.objs.size + 1) :: us, []⟩ _ _ _ x (ng.make C us []) (ro.make C us []) (J.env0.make C us []) (bi _ _ J.kIn eq) both z) fun r s' z' => ?_))
  have en := end_g pa J z'
  match r, en with
  | .ok (.ret u), en =>
    obtain ⟨v, H', J3, rw', ev, q3⟩ := en
    subst ev
    exact ⟨rw', V.ref (s.heap.objs.size + 1), H', J3, rfl, q3⟩
  | .ok .next, en => exact False.elim en
  | .ok .brk, en => exact False.elim en
  | .ok .cont, en => exact False.elim en
  | .error b, en => exact en
theorem g_make (mk : Mk X.K C fa) (F : FnG X.prog X.w X.K X.mg X.base ways lv fa fd names prom) (ng : NoG X.A) (ro : Room (lv + 1) X.A) (gl : Gl X nm) (at_ : X.mg nm = some (.ref C)) (bi : Binds X.K fd names dvl) (dd : Vals dv dvl) (pa : Passes ways X x)
    (ar : PA X (e :: es) t) (nd : (nm == ("__debug__" : Str)) = false) (st : starEach (e :: es) X.env = (false, eval e X.env) :: starEach es X.env) (pl : (backTo pos (starEach es X.env)).any (·.1) = false) :
    PE X (.Call (.Name nm p) (e :: es) [] pos) (tMake C prom dv x t) :=
  ⟨fun pins s σ H Q I z => wpAny_Call_Name_kw (ld_glob I gl at_ (PySem.W.callWith_K (h₀ := X.base) I.ok.mod.kin mk.kp (thn (ar.run pos pins s σ H _ I z) fun us s1 ⟨vs, H1, J, rv, pr⟩ => ⟨J.kIn, make_g mk F ng ro bi dd pa J rv pr⟩) st pl) nd)⟩
theorem g_make0 (mk : Mk X.K C fa) (F : FnG X.prog X.w X.K X.mg X.base ways lv fa fd names prom) (ng : NoG X.A) (ro : Room (lv + 1) X.A) (gl : Gl X nm) (at_ : X.mg nm = some (.ref C)) (bi : Binds X.K fd names dvl) (dd : Vals dv dvl) (pa : Passes ways X x)
    (nd : (nm == ("__debug__" : Str)) = false) : PE X (.Call (.Name nm p) [] [] pos) (tMake C prom dv x tNil) :=
  ⟨fun pins s σ H Q I z => wpAny_Call_Name_kw (ld_glob I gl at_ (PySem.W.callWith_K0 I.kIn mk.kp (make_g (us := []) mk F ng ro bi dd pa I .nil z)) nd)⟩
/-! keywords -/
variable {ks : List Str} {kws : List Keyword} {tk : TA} {g : List Value → List Value → List Value} {gV : List V → List V → List V} {ws : List Value} {zs : List V}
theorem run_gk (F : FnG X.prog X.w X.K X.mg X.base ways lv fa fd names prom) (ng : NoG X.A) (ro : Room lv X.A) (kb : KBinds X.K fd names ks g gV) (pa : Passes ways X x) (I : Inv X pins σ H s) (rv : Vals vs us) (rk : Vals zs ws) (pr : prom (gV vs zs) H Q x) :
    wpAny (model X.prog X.w) X.A (call (.ref fa) us (ks.zip ws)) (EP X pins σ Q) X.xe s := by
  have both := kb.rel rv rk
  refine wpAny_call (codeAny_mono (F.run _ _ _ _ ⟨us, ks.zip ws⟩ _ _ _ _ ng ro I.env0 (kb.to s us ws I.kIn (both.length.symm.trans (F.len _ _ _ _ pr))) both pr) fun r s' z => ?_)
  have en := end_g pa I z
  match r, en with
  | .ok (.ret u), en => exact en
  | .ok .next, en => exact False.elim en
  | .ok .brk, en => exact False.elim en
  | .ok .cont, en => exact False.elim en
  | .error b, en => exact en
end
/-! ### a def by its body -/
theorem g_fn {ways : CXT} {prog : Program} {wo : World} {fr : PySem.W.Frag} {mg : Str → Option Value} {bs : Heap} {lv : Nat} {fa : Addr} {nm qual : Str} {params : Arguments} {body : List Stmt} {scope : Scope} {dV kV doc pm cdv ct oc : Value} {an od : Option Addr}
    {osl : Array (Option Value)} {N names : List Str} {prom : Sp} (look : fr.lookup fa = some ⟨oc, od, .func (PySem.W.fnOf nm qual params body scope dV kV doc pm an cdv ct), osl⟩) (co : PySem.W.codeIn fr cdv qual = true) (S : FnScope N names scope)
    (len : ∀ xs h q x, prom xs h q x → xs.length = names.length)
    (walk : ∀ (ar : Around) (out : List Env) (s0 : Shared) (h : Hp) (xs : List V) (q : VK) (x : XK), NoG (ar.deeper (envOfC qual scope s0.heap.objs.size fa cdv)) → Room lv (ar.deeper (envOfC qual scope s0.heap.objs.size fa cdv)) → prom xs h q x →
      ∃ t, PSs (cxOf ways prog wo fr mg bs N qual scope fa cdv ar out s0 h x) body t ∧ t { nx := fun _ H' => q .non H', rt := q } (start N xs) h) :
    FnG prog wo fr mg bs ways (lv + 1) fa (PySem.W.fnOf nm qual params body scope dV kV doc pm an cdv ct) names prom := by
  refine ⟨len, fun ar out s0 h given bound xs q x ng ro e0 bi rv pr => ?_⟩
  have el := len _ _ _ _ pr
  have kin : fr.In s0.heap := e0.mod.kin.keeps fun b o z => (e0.bs b o z).1
  have nol : s0.heap.NoLimit := e0.mod.nolimit.keeps fun b o z => (e0.bs b o z).1
  have kinds : ∀ y ∈ names.zip bound, scope.names.lookup y.1 = some .local ∨ (scope.names.lookup y.1 = some .cell ∧ ((cellsFrom (s0.heap.objs.size + 1) scope.names []).lookup y.1).isSome = true) := fun y hy => by
    rcases S.par y.1 (List.of_mem_zip hy).1 with z | z
    · exact .inl z
    · exact .inr ⟨z, PySem.W.cellsFrom_some _ _ _ (.inl z)⟩
  refine codeAny_call_function ro.depth (kin _ _ look) rfl S.co S.gen rfl (PySem.W.codeRec_of kin co) (bi _ _ _ _ (wpAny_newFunctionEnv_cells S.kind kinds fun env he s1 ic => ?_))
  subst he
  refine ⟨nol.keeps ic.toInCall.keep, codeAny_func ?_⟩
  obtain ⟨t, ps, hq⟩ := walk ar out s0 h xs q x ng.deeper (ro.deeper _) pr
  have I : Inv (cxOf ways prog wo fr mg bs N qual scope fa cdv ar out s0 h x) [] (start N xs) h s1 := inv_start S ro.hd e0 el rv ic
  refine wpAny_mono (ps.run [] s1 (start N xs) h _ I hq) (fun fl s' z => ?_) fun b s' z => z
  match fl, z with
  | .ret u, ⟨v, σ', H', J, ru, q'⟩ => exact ⟨v, H', J.os, J.bare, J.base, J.hok, ru, q'⟩
  | .next, ⟨σ', H', J, q'⟩ => exact ⟨.non, H', J.os, J.bare, J.base, J.hok, rfl, q'⟩
  | .brk, ⟨_, _, _, q'⟩ => exact False.elim q'
  | .cont, ⟨_, _, _, q'⟩ => exact False.elim q'
theorem FunD.g {ways : CXT} {P : Program} {w : World} {K : PySem.W.Frag} {mg : Str → Option Value} {base : Heap} {nm qual : Str} {params : Arguments} {body : List Stmt} {scope : Scope} {dvs : List V} {kws : List (Str × V)} {fa : Addr} {fd : FuncData} {N names : List Str} {lv : Nat} {prom : Sp}
    (F : FunD K nm qual params body scope dvs kws fa fd) (S : FnScope N names scope) (len : ∀ xs h q x, prom xs h q x → xs.length = names.length)
    (walk : ∀ (cdv : Value) (ar : Around) (out : List Env) (s0 : Shared) (h : Hp) (xs : List V) (q : VK) (x : XK), NoG (ar.deeper (envOfC qual scope s0.heap.objs.size fa cdv)) → Room lv (ar.deeper (envOfC qual scope s0.heap.objs.size fa cdv)) → prom xs h q x →
      ∃ t, PSs (cxOf ways P w K mg base N qual scope fa cdv ar out s0 h x) body t ∧ t { nx := fun _ H' => q .non H', rt := q } (start N xs) h) : FnG P w K mg base ways (lv + 1) fa fd names prom := by
  obtain ⟨oc, od, dV, kV, doc, pm, an, cdv, ct, osl, rfl, look, co, _, _⟩ := F.ex
  exact g_fn look co S len (walk cdv)
theorem callerNoG : NoG callerA := rfl
/-! ### the law's call -/
theorem law_g {P : Program} {w : World} {K : PySem.W.Frag} {mg mb : Str → Option Value} {ways : CXT} {lv : Nat} {fa a : Addr} {fd : FuncData} {nm : Str} {prom : Sp} {t0 : Shared} {vs : List Value} {ns : List Int}
    (kin : K.In t0.heap) (gl : t0.heap.Ns mainGlobals mg) (bn : t0.heap.Ns builtinsNs mb) (bb : ∀ x : Str, x ≠ "__name__" → mb x = bootBuiltins x) (nol : t0.heap.NoLimit) (nogen : t0.gens = #[])
    (sat : t0.heap.get? a = some { cls := .type "list", data := .seq vs.toArray }) (isn : IntsAre vs ns) (short : ns.length ≤ sizeLine) (ro : Room lv callerA)
    (F : ∀ base : Heap, K.In base → base.Ns mainGlobals mg → FnG P w K mg base ways lv fa fd [nm] prom) (bi : ∀ (s : Shared) (u : Value), BindsTo s fd ⟨[u], []⟩ [(nm, u)])
    (pr : ∀ H : Hp, Only H → SqL K H a (ns.map V.int) → prom [.ref a] H (fun v _ => v = .bl true) fun _ _ _ => False) (nox : ∀ H e s', ways [] H t0 (fun _ _ _ => False) e s' → False) :
    codeAny (model P w) callerA (.call (.ref fa) ⟨[.ref a], []⟩) (fun r s' => r = .ok (.ret (.bool true)) ∧ OldK t0.heap s'.heap ∧ s'.os = t0.os ∧ AllBare s'.gens) t0 := by
  have rv := vals_ints isn
  have lenV := isn.length
  have core : ∀ H : Hp, Only H → SqL K H a (ns.map V.int) → HOk P w H t0.heap → (∀ b, H b ≠ none → b = a) → (H a ≠ none → K.lookup a = none) →
      codeAny (model P w) callerA (.call (.ref fa) ⟨[.ref a], []⟩) (fun r s' => r = .ok (.ret (.bool true)) ∧ OldK t0.heap s'.heap ∧ s'.os = t0.os ∧ AllBare s'.gens) t0 := by
    intro H hO hS hok hA hK
    have free : ∀ {b : Addr} {o : Obj} {es : Array DictEntry} {ep : Nat}, t0.heap.get? b = some o → o.data = .dict es ep → H b = none := fun {b o es ep} e d => by
      by_cases z : H b = none
      · exact z
      · have e' := hA b z
        subst e'
        rw [sat] at e
        cases e
        exact Data.noConfusion d
    have spaces : ∀ {b : Addr} {m : Str → Option Value}, t0.heap.Ns b m → (hidT t0.heap H).Ns b m := fun {b m} ⟨o, es, ep, e, d, r⟩ => ⟨o, es, ep, hidT_get e (free e d), d, r⟩
    have kinB : K.In (hidT t0.heap H) := fun b o e => hidT_get (kin b o e) (by
      by_cases z : H b = none
      · exact z
      · have e' := hA b z
        subst e'
        rw [hK z] at e
        cases e)
    obtain ⟨mc, l1, l2⟩ := nol
    have e0 : Env0 P w K mg (hidT t0.heap H) callerA [] t0 H := ⟨rfl, ⟨kinB, spaces gl, ⟨mb, spaces bn, bb⟩, ⟨mc, spaces l1, l2⟩⟩, fun b o e => of_hidT e, Nat.le_of_eq (hidT_size _ _), trivial, fun b hb => absurd (show b ∈ ([] : List Addr) from hb) (by simp), hok, .of_eq nogen⟩
    refine codeAny_mono ((F _ kinB (spaces gl)).run callerA [] t0 H ⟨[.ref a], []⟩ [.ref a] [.ref a] _ _ callerNoG ro e0 (bi t0 (.ref a)) (.cons rfl .nil) (pr H hO hS)) fun r s' z => ?_
    match r, z with
    | .error e, z => exact (nox H e s' z).elim
    | .ok .next, z => exact False.elim z
    | .ok .brk, z => exact False.elim z
    | .ok .cont, z => exact False.elim z
    | .ok (.ret u), ⟨v, H', os, bare, un, hok', r', q⟩ =>
      have q' : v = .bl true := q
      subst q'
      obtain rfl : u = Value.bool true := r'
      refine ⟨rfl, OldK.of_keep fun b o e => ?_, os, bare⟩
      rcases hO b with z | ⟨ob, xs, z⟩
      · exact un.keep b o e z (by intro z; exact absurd (show b ∈ ([] : List Addr) from z) (by simp)) (by simp)
      · obtain ⟨e1, _⟩ := hok b _ z
        obtain ⟨e2, _⟩ := hok' b _ (un.frzs b ob _ z)
        rw [e] at e1
        cases e1
        exact e2
  by_cases hk : K.lookup a = none
  · refine core (fun b => if b = a then some (.frz { cls := .type "list", data := .seq vs.toArray } (.lst (ns.map V.int))) else none) (fun b => ?_) (.inl (.inr ⟨{ cls := .type "list", data := .seq vs.toArray }, if_pos rfl⟩)) (fun b u z => ?_) (fun b z => ?_) fun _ => hk
    all_goals by_cases hb : b = a
    · exact .inr ⟨_, _, if_pos hb⟩
    · exact .inl (if_neg hb)
    · have z' := (if_pos hb).symm.trans z
      cases z'
      subst hb
      exact ⟨sat, by rw [List.length_map]; exact short, vs, _, rv, sat⟩
    · have z' := (if_neg hb).symm.trans z
      cases z'
    · exact hb
    · exact absurd (if_neg hb) z
  · obtain ⟨o, ho⟩ := Option.ne_none_iff_exists'.mp hk
    have e := kin a o ho
    rw [sat] at e
    cases e
    exact core (fun _ => none) (fun _ => .inl rfl) (.inr ⟨_, vs.toArray, _, ho, rfl, rfl, rfl, by rw [List.size_toArray, lenV]; exact short, by simpa using rv⟩) (fun b u z => by have z' : (none : Option HO) = some u := z; cases z') (fun b z => absurd rfl z) fun z => absurd rfl z
theorem walk_g {l : PySem.W.OpenLaw} {most lv : Nat} {q : Program} {loose : List Str} {XP : (Str → Option Value) → Heap → Prop} {YP : World → Heap → Prop} {d : DefRec} {ways : CXT} {nm : Str}
    (hn : l.most = some most) (hn2 : most ≤ sizeLine) (nodf : d.params.defaults = []) (ro : Room lv callerA)
    (F : ∀ (w : World) (mg : Str → Option Value) (fa : Addr) (h : Heap), YP w h → h.Ns mainGlobals mg → mg d.name = some (.ref fa) →
      ∃ (K : PySem.W.Frag) (fd : FuncData) (prom : Sp), K.In h ∧ (∀ (s : Shared) (u : Value), BindsTo s fd ⟨[u], []⟩ [(nm, u)]) ∧
        (∀ (H : Hp) (a : Addr) (ns : List Int), ns.length ≤ most → SqL K H a (ns.map V.int) → prom [.ref a] H (fun v _ => v = .bl true) fun _ _ _ => False) ∧
        ∀ base : Heap, K.In base → base.Ns mainGlobals mg → FnG l.prog w K mg base ways lv fa fd [nm] prom)
    (nox : ∀ (H : Hp) (s : Shared) (e : Value) (s' : Shared), ways [] H s (fun _ _ _ => False) e s' → False) : PySem.W.WalkO q loose XP YP l.row.toRowW d [] (fun f vs => PySem.call f vs) := by
  refine Att.attach_call hn nodf fun w s0 s1 mg mb fa o pm cd doc a vs ns G Y ho hd hcd at_ obj isn len gens => ?_
  obtain ⟨K, fd, prom, kin, bi, pr, FF⟩ := F w mg fa _ Y G.T.g at_
  exact law_g kin G.T.g G.T.b G.T.builtins G.T.nolimit gens obj isn (Nat.le_trans len hn2) ro FF bi (fun H _ hS => pr H a ns len hS) fun H e s' => nox H s1 e s'
end L2

/-! How the small machine's values, store stand in the layer's heap. -/
namespace Dn
open PySem L2

/-- what is fixed through the law -/
structure Cn where
  P : Program
  w : World
  K : PySem.W.Frag
  cls : Nat → Addr

def toKey : PV → Option Key
  | .int i => some (.inl i)
  | .str x => some (.inr x)
  | _ => none
mutual
def toNK : PV → Option NestedKey
  | .int i => some (.num i)
  | .str x => some (.text x)
  | .tup xs => (toNKs xs).map .tup
  | _ => none
def toNKs : List PV → Option (List NestedKey)
  | [] => some []
  | x :: xs => (toNK x).bind fun k => (toNKs xs).map (k :: ·)
end

/-- the dict at d with keys that are tuples: keys, where they stand, values -/
def dPhi (κ : Cn) (d : Addr) (xs : List (NestedKey × Addr × V)) (h : Heap) : Prop :=
  (d == sysModules) = false ∧ xs.length ≤ sizeLine ∧ (∀ x ∈ xs, x.1.depth ≤ 8) ∧ ∃ ys : List (NestedKey × Addr × Value),
    Paired (fun (x : NestedKey × Addr × V) (y : NestedKey × Addr × Value) => x.1 = y.1 ∧ x.2.1 = y.2.1 ∧ RelV x.2.2 y.2.2) xs ys ∧
    ∃ o es ep, h.get? d = some o ∧ o.ExactDict ∧ o.data = .dict es ep ∧ es.toList = ys.map (entryOfKey (nestedKind κ.P κ.w)) ∧ (ys.map (·.1)).Nodup
abbrev dTO (κ : Cn) (d : Addr) (xs : List (NestedKey × Addr × V)) : HO := .ext (dPhi κ d xs)

mutual
/-- v is the value p: F the addresses that may change, ρ where the store's things stand -/
def RV (κ : Cn) (F : Addr → Prop) (ρ : List Addr) (H : Hp) : PV → V → Prop
  | .non, v => v = .non
  | .bl b, v => v = .bl b
  | .int i, v => v = .int i
  | .str x, v => v = .str x
  | .tup ps, v => ∃ a xs, v = .ref a ∧ SqT κ.K H a xs ∧ RVs κ F ρ H ps xs
  | .lst ps, v => ∃ a xs, v = .ref a ∧ H a = some (.lst xs) ∧ ¬ F a ∧ RVs κ F ρ H ps xs
  | .scr ns, v => ∃ a, v = .ref a ∧ ((Rd H a (.lst (ns.map V.int)) ∧ ¬ F a) ∨ SqL κ.K (fun _ => none) a (ns.map V.int))
  | .dic false kvs, v => ∃ a es, v = .ref a ∧ H a = some (.dK es) ∧ ¬ F a ∧ RKs κ F ρ H kvs es
  | .dic true kvs, v => ∃ a es, v = .ref a ∧ H a = some (dTO κ a es) ∧ ¬ F a ∧ RTs κ F ρ H kvs es
  | .ref n, v => ∃ a, v = .ref a ∧ ρ[n]? = some a
def RVs (κ : Cn) (F : Addr → Prop) (ρ : List Addr) (H : Hp) : List PV → List V → Prop
  | [], vs => vs = []
  | p :: ps, vs => ∃ v r, vs = v :: r ∧ RV κ F ρ H p v ∧ RVs κ F ρ H ps r
def RKs (κ : Cn) (F : Addr → Prop) (ρ : List Addr) (H : Hp) : List (PV × PV) → List (Key × V) → Prop
  | [], vs => vs = []
  | (k, p) :: ps, vs => ∃ kk v r, vs = (kk, v) :: r ∧ toKey k = some kk ∧ RV κ F ρ H p v ∧ RKs κ F ρ H ps r
def RTs (κ : Cn) (F : Addr → Prop) (ρ : List Addr) (H : Hp) : List (PV × PV) → List (NestedKey × Addr × V) → Prop
  | [], vs => vs = []
  | (k, p) :: ps, vs => ∃ kk a v r, vs = (kk, a, v) :: r ∧ toNK k = some kk ∧ RV κ F ρ H k (.ref a) ∧ RV κ F ρ H p v ∧ RTs κ F ρ H ps r
end
def RFs (κ : Cn) (F : Addr → Prop) (ρ : List Addr) (H : Hp) : List (Str × PV) → List (Str × V) → Prop
  | [], vs => vs = []
  | (k, p) :: ps, vs => ∃ v r, vs = (k, v) :: r ∧ RV κ F ρ H p v ∧ RFs κ F ρ H ps r
/-- the thing of the store at a -/
def RO (κ : Cn) (F : Addr → Prop) (ρ : List Addr) (H : Hp) : PO → Addr → Prop
  | .lst ps, a => ∃ xs, H a = some (.lst xs) ∧ RVs κ F ρ H ps xs
  | .dic false kvs, a => ∃ es, H a = some (.dK es) ∧ RKs κ F ρ H kvs es
  | .dic true kvs, a => ∃ es, H a = some (dTO κ a es) ∧ RTs κ F ρ H kvs es
  | .ins c fs, a => ∃ dx gs, H a = some (.ins (κ.cls c) dx gs) ∧ RFs κ F ρ H fs gs

def Fo (B : Addr → Prop) (ρ : List Addr) : Addr → Prop := fun a => B a ∨ a ∈ ρ
structure Wd (κ : Cn) (B : Addr → Prop) (ρ : List Addr) (st : Store) (H : Hp) : Prop where
  len : ρ.length = st.length
  nd : ρ.Nodup
  dom : ∀ a, B a → H a ≠ none
  sep : ∀ a ∈ ρ, ¬ B a
  ob : ∀ (n : Nat) (o : PO) (a : Addr), st[n]? = some o → ρ[n]? = some a → RO κ (Fo B ρ) ρ H o a
structure Ext (ρ : List Addr) (H : Hp) (ρ' : List Addr) (H' : Hp) : Prop where
  nu : ∃ ν, ρ' = ρ ++ ν ∧ ∀ a ∈ ν, H a = none
  dom : ∀ a, H a ≠ none → H' a ≠ none
  keep : ∀ a o, H a = some o → a ∉ ρ' → H' a = some o
  tup : ∀ a xs, H a = some (.tup xs) → H' a = some (.tup xs)
  frz : ∀ a o u, H a = some (.frz o u) → H' a = some (.frz o u)

section
variable {κ : Cn} {B : Addr → Prop} {F F' : Addr → Prop} {ρ ρ' ρ1 ρ2 : List Addr} {H H' H1 H2 : Hp} {st st' : Store}
theorem Ext.refl : Ext ρ H ρ H := ⟨⟨[], by simp, by simp⟩, fun _ h => h, fun _ _ h _ => h, fun _ _ h => h, fun _ _ _ h => h⟩
theorem Ext.sub (e : Ext ρ H ρ' H') : ∀ a ∈ ρ, a ∈ ρ' := fun a h => by
  obtain ⟨ν, rfl, _⟩ := e.nu
  exact List.mem_append_left _ h
theorem Ext.get (e : Ext ρ H ρ' H') {n : Nat} {a : Addr} (h : ρ[n]? = some a) : ρ'[n]? = some a := by
  obtain ⟨ν, rfl, _⟩ := e.nu
  rw [List.getElem?_append_left (List.getElem?_eq_some_iff.mp h).1, h]
theorem Ext.out (e : Ext ρ H ρ' H') {a : Addr} (h : a ∉ ρ) (hn : H a ≠ none) : a ∉ ρ' := fun hm => by
  obtain ⟨ν, rfl, hν⟩ := e.nu
  rcases List.mem_append.mp hm with z | z
  · exact h z
  · exact hn (hν a z)
theorem Ext.free (e : Ext ρ H ρ' H') {a : Addr} (h : H' a = none) : H a = none := by
  cases q : H a with
  | none => rfl
  | some o => exact absurd h (e.dom a (by rw [q]; simp))
theorem Ext.trans (e : Ext ρ H ρ1 H1) (f : Ext ρ1 H1 ρ2 H2) : Ext ρ H ρ2 H2 where
  nu := by
    obtain ⟨ν, rfl, h1⟩ := e.nu
    obtain ⟨ν', rfl, h2⟩ := f.nu
    refine ⟨ν ++ ν', by rw [List.append_assoc], fun a ha => ?_⟩
    rcases List.mem_append.mp ha with z | z
    · exact h1 a z
    · exact e.free (h2 a z)
  dom := fun a h => f.dom a (e.dom a h)
  keep := fun a o h n => f.keep a o (e.keep a o h fun z => n (f.sub a z)) n
  tup := fun a xs h => f.tup a xs (e.tup a xs h)
  frz := fun a o u h => f.frz a o u (e.frz a o u h)

/-- what a value's standing leans on -/
structure Mono (κ : Cn) (F : Addr → Prop) (ρ : List Addr) (H : Hp) (F' : Addr → Prop) (ρ' : List Addr) (H' : Hp) : Prop where
  tup : ∀ a xs, SqT κ.K H a xs → SqT κ.K H' a xs
  keep : ∀ a o, H a = some o → ¬ F a → H' a = some o
  out : ∀ a, H a ≠ none → ¬ F a → ¬ F' a
  get : ∀ (n : Nat) a, ρ[n]? = some a → ρ'[n]? = some a
theorem sqT_mono (h1 : ∀ a xs, H a = some (.tup xs) → H' a = some (.tup xs)) (h2 : ∀ a o u, H a = some (.frz o u) → H' a = some (.frz o u)) {a : Addr} {xs : List V} (h : SqT κ.K H a xs) : SqT κ.K H' a xs := by
  rcases h with (h | ⟨o, h⟩) | h
  · exact .inl (.inl (h1 a xs h))
  · exact .inl (.inr ⟨o, h2 a o _ h⟩)
  · exact .inr h
theorem Ext.mono (e : Ext ρ H ρ' H') : Mono κ (Fo B ρ) ρ H (Fo B ρ') ρ' H' where
  tup := fun a xs h => sqT_mono e.tup e.frz h
  keep := fun a o h n => e.keep a o h (e.out (fun z => n (.inr z)) (by rw [h]; simp))
  out := fun a h n z => by
    rcases z with z | z
    · exact n (.inl z)
    · exact e.out (fun q => n (.inr q)) h z
  get := fun n a h => e.get h
theorem rd_mono (m : Mono κ F ρ H F' ρ' H') {a : Addr} {u : HO} (n : ¬ F a) (h : Rd H a u) : Rd H' a u := by
  rcases h with h | ⟨o, h⟩
  · exact .inl (m.keep a _ h n)
  · exact .inr ⟨o, m.keep a _ h n⟩
theorem rd_some {a : Addr} {u : HO} (h : Rd H a u) : H a ≠ none := by
  rcases h with h | ⟨o, h⟩ <;> rw [h] <;> simp
mutual
theorem RV.mono (m : Mono κ F ρ H F' ρ' H') : ∀ {p : PV} {v : V}, RV κ F ρ H p v → RV κ F' ρ' H' p v
  | .non, v, h => by simp only [RV] at h ⊢; exact h
  | .bl b, v, h => by simp only [RV] at h ⊢; exact h
  | .int i, v, h => by simp only [RV] at h ⊢; exact h
  | .str x, v, h => by simp only [RV] at h ⊢; exact h
  | .tup ps, v, h => by
    simp only [RV] at h ⊢
    obtain ⟨a, xs, e, h1, h2⟩ := h
    exact ⟨a, xs, e, m.tup a xs h1, RVs.mono m h2⟩
  | .lst ps, v, h => by
    simp only [RV] at h ⊢
    obtain ⟨a, xs, e, h1, n, h2⟩ := h
    exact ⟨a, xs, e, m.keep a _ h1 n, m.out a (by rw [h1]; simp) n, RVs.mono m h2⟩
  | .scr ns, v, h => by
    simp only [RV] at h ⊢
    obtain ⟨a, e, h1⟩ := h
    rcases h1 with ⟨h1, n⟩ | h1
    · exact ⟨a, e, .inl ⟨rd_mono m n h1, m.out a (rd_some h1) n⟩⟩
    · exact ⟨a, e, .inr h1⟩
  | .dic false kvs, v, h => by
    simp only [RV] at h ⊢
    obtain ⟨a, es, e, h1, n, h2⟩ := h
    exact ⟨a, es, e, m.keep a _ h1 n, m.out a (by rw [h1]; simp) n, RKs.mono m h2⟩
  | .dic true kvs, v, h => by
    simp only [RV] at h ⊢
    obtain ⟨a, es, e, h1, n, h2⟩ := h
    exact ⟨a, es, e, m.keep a _ h1 n, m.out a (by rw [h1]; simp) n, RTs.mono m h2⟩
  | .ref n, v, h => by
    simp only [RV] at h ⊢
    obtain ⟨a, e, h1⟩ := h
    exact ⟨a, e, m.get n a h1⟩
theorem RVs.mono (m : Mono κ F ρ H F' ρ' H') : ∀ {p : List PV} {v : List V}, RVs κ F ρ H p v → RVs κ F' ρ' H' p v
  | [], v, h => by simp only [RVs] at h ⊢; exact h
  | p :: ps, v, h => by
    simp only [RVs] at h ⊢
    obtain ⟨w, r, e, h1, h2⟩ := h
    exact ⟨w, r, e, RV.mono m h1, RVs.mono m h2⟩
theorem RKs.mono (m : Mono κ F ρ H F' ρ' H') : ∀ {p : List (PV × PV)} {v : List (Key × V)}, RKs κ F ρ H p v → RKs κ F' ρ' H' p v
  | [], v, h => by simp only [RKs] at h ⊢; exact h
  | (k, p) :: ps, v, h => by
    simp only [RKs] at h ⊢
    obtain ⟨kk, w, r, e, h0, h1, h2⟩ := h
    exact ⟨kk, w, r, e, h0, RV.mono m h1, RKs.mono m h2⟩
theorem RTs.mono (m : Mono κ F ρ H F' ρ' H') : ∀ {p : List (PV × PV)} {v : List (NestedKey × Addr × V)}, RTs κ F ρ H p v → RTs κ F' ρ' H' p v
  | [], v, h => by simp only [RTs] at h ⊢; exact h
  | (k, p) :: ps, v, h => by
    simp only [RTs] at h ⊢
    obtain ⟨kk, a, w, r, e, h0, hk, h1, h2⟩ := h
    exact ⟨kk, a, w, r, e, h0, RV.mono m hk, RV.mono m h1, RTs.mono m h2⟩
end
theorem RFs.mono (m : Mono κ F ρ H F' ρ' H') : ∀ {p : List (Str × PV)} {v : List (Str × V)}, RFs κ F ρ H p v → RFs κ F' ρ' H' p v
  | [], v, h => h
  | (k, p) :: ps, v, h => by
    obtain ⟨w, r, e, h1, h2⟩ := h
    exact ⟨w, r, e, h1.mono m, RFs.mono m h2⟩
theorem RVs.length : ∀ {p : List PV} {v : List V}, RVs κ F ρ H p v → p.length = v.length
  | [], v, h => by simp only [RVs] at h; rw [h]; rfl
  | p :: ps, v, h => by
    simp only [RVs] at h
    obtain ⟨w, r, rfl, _, h2⟩ := h
    simp [RVs.length h2]
theorem RVs.get : ∀ {p : List PV} {v : List V} {i : Nat} {x : PV}, RVs κ F ρ H p v → p[i]? = some x → ∃ y, v[i]? = some y ∧ RV κ F ρ H x y
  | [], v, i, x, h, e => by simp at e
  | p :: ps, v, 0, x, h, e => by
    simp only [RVs] at h
    obtain ⟨w, r, rfl, h1, _⟩ := h
    simp at e
    subst e
    exact ⟨w, rfl, h1⟩
  | p :: ps, v, i + 1, x, h, e => by
    simp only [RVs] at h
    obtain ⟨w, r, rfl, _, h2⟩ := h
    simpa using RVs.get (i := i) (x := x) h2 (by simpa using e)
theorem RVs.append : ∀ {p q : List PV} {v w : List V}, RVs κ F ρ H p v → RVs κ F ρ H q w → RVs κ F ρ H (p ++ q) (v ++ w)
  | [], q, v, w, h, g => by
    simp only [RVs] at h
    subst h
    exact g
  | p :: ps, q, v, w, h, g => by
    simp only [RVs] at h
    obtain ⟨x, r, rfl, h1, h2⟩ := h
    rw [List.cons_append, List.cons_append]
    simp only [RVs]
    exact ⟨x, _, rfl, h1, RVs.append h2 g⟩
theorem RVs.cons {p : PV} {ps : List PV} {v : V} {vs : List V} (h : RV κ F ρ H p v) (g : RVs κ F ρ H ps vs) : RVs κ F ρ H (p :: ps) (v :: vs) := by
  simp only [RVs]; exact ⟨v, vs, rfl, h, g⟩
theorem RVs.nil : RVs κ F ρ H [] [] := by simp only [RVs]
theorem RVs.set : ∀ {p : List PV} {v : List V} (i : Nat) {x : PV} {y : V}, RVs κ F ρ H p v → RV κ F ρ H x y → RVs κ F ρ H (p.set i x) (v.set i y)
  | [], v, i, x, y, h, g => by
    simp only [RVs] at h
    subst h
    simp [RVs]
  | p :: ps, v, 0, x, y, h, g => by
    simp only [RVs] at h
    obtain ⟨w, r, rfl, _, h2⟩ := h
    exact RVs.cons g h2
  | p :: ps, v, i + 1, x, y, h, g => by
    simp only [RVs] at h
    obtain ⟨w, r, rfl, h1, h2⟩ := h
    exact RVs.cons h1 (RVs.set i h2 g)
theorem RVs.drop : ∀ {p : List PV} {v : List V} (i : Nat), RVs κ F ρ H p v → RVs κ F ρ H (p.drop i) (v.drop i)
  | p, v, 0, h => h
  | [], v, i + 1, h => by
    simp only [RVs] at h
    subst h
    simp [RVs]
  | p :: ps, v, i + 1, h => by
    simp only [RVs] at h
    obtain ⟨w, r, rfl, h1, h2⟩ := h
    exact RVs.drop i h2
theorem RVs.take : ∀ {p : List PV} {v : List V} (i : Nat), RVs κ F ρ H p v → RVs κ F ρ H (p.take i) (v.take i)
  | p, v, 0, h => by simp [RVs]
  | [], v, i + 1, h => by
    simp only [RVs] at h
    subst h
    simp [RVs]
  | p :: ps, v, i + 1, h => by
    simp only [RVs] at h
    obtain ⟨w, r, rfl, h1, h2⟩ := h
    exact RVs.cons h1 (RVs.take i h2)
theorem RVs.flatten : ∀ (k : Nat) {p : List PV} {v : List V}, RVs κ F ρ H p v → RVs κ F ρ H (List.replicate k p).flatten (List.replicate k v).flatten
  | 0, p, v, h => by simp [RVs]
  | k + 1, p, v, h => by
    rw [List.replicate_succ, List.replicate_succ, List.flatten_cons, List.flatten_cons]
    exact RVs.append h (RVs.flatten k h)

/-! ### the world -/
theorem Wd.has (W : Wd κ B ρ st H) {a : Addr} (h : a ∈ ρ) : H a ≠ none := by
  obtain ⟨n, hn⟩ := List.getElem?_of_mem h
  have hl : n < st.length := by rw [← W.len]; exact (List.getElem?_eq_some_iff.mp hn).1
  have := W.ob n st[n] a (by simp [hl]) hn
  cases ho : st[n] with
  | lst ps => rw [ho] at this; obtain ⟨_, e, _⟩ := this; rw [e]; simp
  | dic t kvs =>
    rw [ho] at this
    cases t <;> (obtain ⟨_, e, _⟩ := this; rw [e]; simp)
  | ins c fs => rw [ho] at this; obtain ⟨_, _, e, _⟩ := this; rw [e]; simp
theorem Wd.fo (W : Wd κ B ρ st H) {a : Addr} (h : H a = none) : ¬ Fo B ρ a := fun z => by
  rcases z with z | z
  · exact W.dom a z h
  · exact W.has z h
theorem Wd.nil (h : ∀ a, B a → H a ≠ none) : Wd κ B [] [] H := ⟨rfl, List.nodup_nil, h, fun _ z => absurd z (by simp), fun _ _ _ z => by simp at z⟩
/-- nothing of the store changed -/
theorem RO.mono (m : Mono κ F ρ H F' ρ' H') {o : PO} {a : Addr} (e : H' a = H a) (h : RO κ F ρ H o a) : RO κ F' ρ' H' o a := by
  cases o with
  | lst ps => obtain ⟨xs, h1, h2⟩ := h; exact ⟨xs, e.trans h1, h2.mono m⟩
  | dic t kvs => cases t <;> (obtain ⟨es, h1, h2⟩ := h; exact ⟨es, e.trans h1, h2.mono m⟩)
  | ins c fs => obtain ⟨dx, gs, h1, h2⟩ := h; exact ⟨dx, gs, e.trans h1, h2.mono m⟩
/-- a new thing that is not of the store -/
theorem ext_new {a : Addr} {o : HO} (h : H a = none) : Ext ρ H ρ (upd H a o) where
  nu := ⟨[], by simp, by simp⟩
  dom := fun b hb => by
    by_cases e : b = a
    · subst e; rw [upd_same]; simp
    · rw [upd_ne e]; exact hb
  keep := fun b u hb _ => by rw [upd_ne (ne_of_none hb h)]; exact hb
  tup := fun b u hb => by rw [upd_ne (ne_of_none hb h)]; exact hb
  frz := fun b u _ hb => by rw [upd_ne (ne_of_none hb h)]; exact hb
theorem Wd.ext_same (W : Wd κ B ρ st H) (e : Ext ρ H ρ H') (h : ∀ a ∈ ρ, H' a = H a) : Wd κ B ρ st H' :=
  ⟨W.len, W.nd, fun a b => e.dom a (W.dom a b), W.sep, fun n o a h1 h2 => (W.ob n o a h1 h2).mono e.mono (h a (List.mem_of_getElem? h2))⟩
theorem Wd.new {a : Addr} {o : HO} (W : Wd κ B ρ st H) (h : H a = none) : Wd κ B ρ st (upd H a o) :=
  W.ext_same (ext_new h) fun b hb => upd_ne fun e => W.has hb (e ▸ h)
/-- a new thing of the store: it was made, now it stands at a -/
theorem ext_add {a : Addr} (h : H a = none) {o : HO} (H' : Hp) (e : H' = upd H a o) : Ext ρ H (ρ ++ [a]) H' := by
  subst e
  have e := ext_new (ρ := ρ) (o := o) h
  exact ⟨⟨[a], rfl, fun b hb => by rw [List.mem_singleton.mp hb]; exact h⟩, e.dom, fun b u hb n => e.keep b u hb fun z => n (List.mem_append_left _ z), e.tup, e.frz⟩
theorem Wd.add {a : Addr} {o : HO} {po : PO} (W : Wd κ B ρ st H) (h : H a = none) (r : RO κ (Fo B (ρ ++ [a])) (ρ ++ [a]) (upd H a o) po a) : Wd κ B (ρ ++ [a]) (st ++ [po]) (upd H a o) := by
  have na : a ∉ ρ := fun z => W.has z h
  have E := ext_add (ρ := ρ) (o := o) h _ rfl
  refine ⟨by simp [W.len], ?_, fun b hb => E.dom b (W.dom b hb), fun b hb => ?_, fun n q b h1 h2 => ?_⟩
  · rw [List.nodup_append]
    exact ⟨W.nd, List.nodup_cons.mpr ⟨by simp, List.nodup_nil⟩, fun b hb c hc => by rw [List.mem_singleton.mp hc]; exact fun e => na (e ▸ hb)⟩
  · rcases List.mem_append.mp hb with z | z
    · exact W.sep b z
    · rw [List.mem_singleton.mp z]; exact fun q => W.dom a q h
  · by_cases hn : n < ρ.length
    · rw [List.getElem?_append_left (by rw [← W.len]; exact hn)] at h1
      rw [List.getElem?_append_left hn] at h2
      exact (W.ob n q b h1 h2).mono E.mono (upd_ne fun e => na (e ▸ List.mem_of_getElem? h2))
    · have hn2 : n = ρ.length := by
        have := (List.getElem?_eq_some_iff.mp h2).1
        simp at this
        omega
      subst hn2
      rw [List.getElem?_append_right (Nat.le_refl _)] at h2
      rw [List.getElem?_append_right (by rw [W.len]; exact Nat.le_refl _), W.len] at h1
      simp at h1 h2
      subst h1; subst h2
      exact r
/-- the thing n of the store is written -/
theorem ext_put (W : Wd κ B ρ st H) {n : Nat} {a : Addr} {o : HO} (ha : ρ[n]? = some a) (nt : ∀ xs, H a ≠ some (.tup xs)) (nf : ∀ o u, H a ≠ some (.frz o u)) : Ext ρ H ρ (upd H a o) where
  nu := ⟨[], by simp, by simp⟩
  dom := fun b hb => by
    by_cases e : b = a
    · subst e; rw [upd_same]; simp
    · rw [upd_ne e]; exact hb
  keep := fun b u hb nb => by rw [upd_ne fun (e : b = a) => nb (by rw [e]; exact List.mem_of_getElem? ha)]; exact hb
  tup := fun b u hb => by rw [upd_ne fun (e : b = a) => nt u (by rw [← e]; exact hb)]; exact hb
  frz := fun b u v hb => by rw [upd_ne fun (e : b = a) => nf u v (by rw [← e]; exact hb)]; exact hb
theorem nodup_get {α : Type} {l : List α} {i j : Nat} {x : α} (nd : l.Nodup) (h1 : l[i]? = some x) (h2 : l[j]? = some x) : i = j := by
  obtain ⟨a, e1⟩ := List.getElem?_eq_some_iff.mp h1
  obtain ⟨b, e2⟩ := List.getElem?_eq_some_iff.mp h2
  exact (List.getElem_inj nd).mp (e1.trans e2.symm)
theorem Wd.put (W : Wd κ B ρ st H) {n : Nat} {a : Addr} {o : HO} {po : PO} (ha : ρ[n]? = some a) (nt : ∀ xs, H a ≠ some (.tup xs)) (nf : ∀ o u, H a ≠ some (.frz o u)) (r : RO κ (Fo B ρ) ρ (upd H a o) po a) : Wd κ B ρ (st.set n po) (upd H a o) := by
  have E := ext_put W (o := o) ha nt nf
  refine ⟨by simp [W.len], W.nd, fun b hb => E.dom b (W.dom b hb), W.sep, fun m q b h1 h2 => ?_⟩
  by_cases hm : m = n
  · subst hm
    have e : b = a := by rw [ha] at h2; exact (Option.some.inj h2).symm
    subst e
    have hl : m < st.length := by rw [← W.len]; exact (List.getElem?_eq_some_iff.mp ha).1
    rw [List.getElem?_set_self hl] at h1
    cases h1
    exact r
  · rw [List.getElem?_set_ne (Ne.symm hm)] at h1
    exact (W.ob m q b h1 h2).mono E.mono (upd_ne fun (e : b = a) => hm (nodup_get W.nd h2 (by rw [e]; exact ha)))
theorem Wd.at (W : Wd κ B ρ st H) {n : Nat} {o : PO} (h : st[n]? = some o) : ∃ a, ρ[n]? = some a ∧ RO κ (Fo B ρ) ρ H o a := by
  have hl : n < ρ.length := by rw [W.len]; exact (List.getElem?_eq_some_iff.mp h).1
  exact ⟨ρ[n], by simp [hl], W.ob n o _ h (by simp [hl])⟩
end
end Dn

/-! What a piece of Python does is what its combinator says: the rules. -/
namespace Dn
open PySem L2

/-- the law's text, by numbers -/
structure Pg where
  tbl : Nat → Option FnD
  gname : Nat → Option Str
  dfl : Nat → List PV
  cname : Nat → Option Str
  cinit : Nat → Nat
  flds : Nat → List Str
  meths : Nat → List (Str × Nat)
  consts : Str → Option PV
  free : List Str

/-- an exception e of the class cls, its dict at d -/
def RX (κ : Cn) (e : PX) (cls : Value) (d : Option Addr) (H : Hp) : Prop :=
  cls = .ref (κ.cls e.c) ∧ ((e.fs = [] ∧ d = none) ∨ ∃ dd gs, d = some dd ∧ H dd = some (.xd gs) ∧ ∀ F ρ, RFs κ F ρ H e.fs gs)
/-- a frame: what must not be touched, what stood at its entry, what may fly -/
structure Fr where
  B : Addr → Prop
  ρ0 : List Addr
  H0 : Hp
  Ex : PX → Store → Prop
structure At (κ : Cn) (G : Fr) (ρ : List Addr) (st : Store) (H : Hp) : Prop where
  wd : Wd κ G.B ρ st H
  ext : Ext G.ρ0 G.H0 ρ H
def EXK (κ : Cn) (G : Fr) : XK := fun cls d H' => ∃ e st' ρ', At κ G ρ' st' H' ∧ RX κ e cls d H' ∧ G.Ex e st'
def OutF (κ : Cn) (B : Addr → Prop) (ρ : List Addr) (H : Hp) (r : Res PV) (Q : VK) (E : XK) : Prop := match r with
  | .ok v st' => ∀ ρ' H' u, Ext ρ H ρ' H' → Wd κ B ρ' st' H' → RV κ (Fo B ρ') ρ' H' v u → Q u H'
  | .exc e st' => ∀ ρ' H' cls d, Ext ρ H ρ' H' → Wd κ B ρ' st' H' → RX κ e cls d H' → E cls d H'
  | .bad => False
/-- what the def f promises: the machine's value of it -/
def spI (κ : Cn) (Γ : Pg) (n f : Nat) : Sp := fun vs H Q E => ∃ B ρ st pvs, Wd κ B ρ st H ∧ RVs κ (Fo B ρ) ρ H pvs vs ∧ (∃ d, Γ.tbl f = some d ∧ pvs.length = d.np) ∧
  OutF κ B ρ H (callN Γ.tbl n f pvs st) Q E
structure EnvOk (Γ : Pg) (κ : Cn) (mg : Str → Option Value) (base : Heap) (n : Nat) (fa : Nat → Addr) : Prop where
  fn : ∀ f d, Γ.tbl f = some d → ∃ fd ps, FnG κ.P κ.w κ.K mg base (L2.CX κ.P κ.w) (2 * n) (fa f) fd ps (spI κ Γ n f) ∧ ps.length = d.np ∧ PySem.W.keepIn κ.K (.ref (fa f)) = true ∧
    ∀ j, j ≤ (Γ.dfl f).length → ∃ ds dvs, Binds κ.K fd ps ds ∧ Vals dvs ds ∧ ∀ F ρ H, RVs κ F ρ H ((Γ.dfl f).drop j) dvs
  gn : ∀ f x, Γ.gname f = some x → mg x = some (.ref (fa f))
  cn : ∀ C x, Γ.cname C = some x → mg x = some (.ref (κ.cls C)) ∧ Mk κ.K (κ.cls C) (fa (Γ.cinit C)) ∧ Cls κ.K (κ.cls C)
  fl : ∀ C x f, Γ.cname C = some x → f ∈ Γ.flds C → NoAttr κ.K (κ.cls C) f
  me : ∀ C x m f, Γ.cname C = some x → (m, f) ∈ Γ.meths C → Meth κ.K (κ.cls C) m (fa f)
  ct : ∀ x v, Γ.consts x = some v → ∃ u w, mg x = some u ∧ RelV w u ∧ ∀ F ρ H, RV κ F ρ H v w
  bl : ∀ x, x ∈ Γ.free → mg x = none

abbrev cnOf (X : Cx) (c : Nat → Addr) : Cn := ⟨X.prog, X.w, X.K, c⟩
structure Good (Γ : Pg) (n : Nat) (c fa : Nat → Addr) (G : Fr) (N : List Str) (sc : Scope) (X : Cx) : Prop where
  hN : X.N = N
  hsc : X.env.scope = sc
  nd : X.N.Nodup
  calm : X.calm = true
  room : Room (2 * n + 1) X.A
  ng : NoG X.A
  env : EnvOk Γ (cnOf X c) X.mg X.base n fa
  ps : Passes (L2.CX X.prog X.w) X (EXK (cnOf X c) G)
  po : PassesOwn (model X.prog X.w) X.A X.env X.xe
  kind : X.env.scope.kind = .function
section
variable {Γ : Pg} {n : Nat} {c fa : Nat → Addr} {G : Fr} {N : List Str} {sc : Scope} {X : Cx}
theorem Good.u1 (g : Good Γ n c fa G N sc X) : X.A.units + 1 < cLine := hu_of g.room
theorem Good.u64 (g : Good Γ n c fa G N sc X) : X.A.units + 64 < cLine := g.room.units
theorem Good.u0 (g : Good Γ n c fa G N sc X) : X.A.units < cLine := g.room.units0
theorem Good.u65 (g : Good Γ n c fa G N sc X) : X.A.units + 65 < cLine := by have := g.room.un; omega
theorem Good.r0 (g : Good Γ n c fa G N sc X) : Room (2 * n) X.A := g.room.mono (by omega)
end

/-- the frame's values -/
def REnv (κ : Cn) (F : Addr → Prop) (ρ : List Addr) (H : Hp) (σp : Env) (σ : St) : Prop := σp.length = σ.length ∧ ∀ (i : Nat) (p : PV), σp[i]? = some (some p) → ∃ v, σ[i]? = some (some v) ∧ RV κ F ρ H p v
def Out {α : Type} (κ : Cn) (G : Fr) (ρ : List Addr) (H : Hp) (r : Res α) (P : α → Store → List Addr → Hp → Prop) : Prop := match r with
  | .ok a st' => ∀ ρ' H', Ext ρ H ρ' H' → At κ G ρ' st' H' → P a st' ρ' H'
  | .exc e st' => G.Ex e st'
  | .bad => False
section
variable {α β : Type} {κ : Cn} {G : Fr} {F F' : Addr → Prop} {ρ ρ1 ρ' : List Addr} {H H1 H' : Hp} {st st1 st' : Store} {σp : Env} {σ : St}
theorem REnv.mono (m : Mono κ F ρ H F' ρ' H') (h : REnv κ F ρ H σp σ) : REnv κ F' ρ' H' σp σ := ⟨h.1, fun i p e => let ⟨v, e1, r⟩ := h.2 i p e; ⟨v, e1, r.mono m⟩⟩
theorem REnv.set (h : REnv κ F ρ H σp σ) {i : Nat} {p : PV} {v : V} (r : RV κ F ρ H p v) : REnv κ F ρ H (σp.set i (some p)) (σ.set i (some v)) := by
  refine ⟨by simp [h.1], fun j q e => ?_⟩
  by_cases hj : j = i
  · subst hj
    have hl : j < σp.length := by
      have := (List.getElem?_eq_some_iff.mp e).1
      simpa using this
    rw [List.getElem?_set_self hl] at e
    cases e
    exact ⟨v, by rw [List.getElem?_set_self (by rw [← h.1]; exact hl)], r⟩
  · rw [List.getElem?_set_ne (Ne.symm hj)] at e
    obtain ⟨w, e1, r1⟩ := h.2 j q e
    exact ⟨w, by rw [List.getElem?_set_ne (Ne.symm hj)]; exact e1, r1⟩
theorem Out.mono {r : Res α} {P P' : α → Store → List Addr → Hp → Prop} (o : Out κ G ρ H r P) (h : ∀ a st' ρ' H', Ext ρ H ρ' H' → At κ G ρ' st' H' → P a st' ρ' H' → P' a st' ρ' H') : Out κ G ρ H r P' := by
  cases r with
  | ok a st' => exact fun ρ' H' e A => h a st' ρ' H' e A (o ρ' H' e A)
  | exc e st' => exact o
  | bad => exact o
theorem Out.bind {r : Res α} {f : α → Store → Res β} {P : β → Store → List Addr → Hp → Prop} (o : Out κ G ρ H (r.bind f) P) : Out κ G ρ H r fun a st1 ρ1 H1 => Out κ G ρ1 H1 (f a st1) P := by
  cases r with
  | ok a st1 =>
    intro ρ1 H1 e1 A1
    have o : Out κ G ρ H (f a st1) P := o
    cases q : f a st1 with
    | ok b st2 =>
      rw [q] at o
      exact fun ρ2 H2 e2 A2 => o ρ2 H2 (e1.trans e2) A2
    | exc e st2 => rw [q] at o; exact o
    | bad => rw [q] at o; exact o
  | exc e st1 => exact o
  | bad => exact o
/-- from a later state -/
theorem Out.weak {r : Res α} {P : α → Store → List Addr → Hp → Prop} (e : Ext ρ H ρ1 H1) (o : Out κ G ρ H r P) : Out κ G ρ1 H1 r P := by
  cases r with
  | ok a st1 => exact fun ρ2 H2 e2 A2 => o ρ2 H2 (e.trans e2) A2
  | exc e st1 => exact o
  | bad => exact o
/-- a step that changes nothing -/
theorem Out.ret {a : α} {P : α → Store → List Addr → Hp → Prop} (o : Out κ G ρ H (.ok a st) P) (A : At κ G ρ st H) : P a st ρ H := o ρ H Ext.refl A
theorem Out.of {x : Option α} {P : α → Store → List Addr → Hp → Prop} (o : Out κ G ρ H (Res.of st x) P) : ∃ a, x = some a ∧ ∀ ρ' H', Ext ρ H ρ' H' → At κ G ρ' st H' → P a st ρ' H' := by
  cases x with
  | none => exact False.elim o
  | some a => exact ⟨a, rfl, o⟩
theorem At.step (A : At κ G ρ st H) (e : Ext ρ H ρ' H') (W : Wd κ G.B ρ' st' H') : At κ G ρ' st' H' := ⟨W, A.ext.trans e⟩
end

/-- what a value is wanted for -/
abbrev PQ (κ : Cn) (G : Fr) (Q : VK) : PV → Store → List Addr → Hp → Prop := fun v _ ρ' H' => ∀ u, RV κ (Fo G.B ρ') ρ' H' v u → Q u H'
/-- the reading of an expression by its combinator -/
def tE (κ : Cn) (G : Fr) (cs : CS) (d : DE) : TE := fun σ H Q => ∃ ρ st σp, At κ G ρ st H ∧ REnv κ (Fo G.B ρ) ρ H σp σ ∧ Out κ G ρ H (d cs σp st) (PQ κ G Q)
def SE (Γ : Pg) (N : List Str) (sc : Scope) (e : Expr) (d : DE) : Prop := ∀ (n : Nat) (c fa : Nat → Addr) (G : Fr) (X : Cx), Good Γ n c fa G N sc X → PE X e (tE (cnOf X c) G (callN Γ.tbl n) d)
/-- .. of a test -/
def tT (κ : Cn) (G : Fr) (cs : CS) (d : DE) : TT := fun σ H Q => ∃ ρ st σp, At κ G ρ st H ∧ REnv κ (Fo G.B ρ) ρ H σp σ ∧ Out κ G ρ H (d cs σp st) fun v _ _ H' => ∃ b, v = .bl b ∧ Q b H'
def ST (Γ : Pg) (N : List Str) (sc : Scope) (e : Expr) (d : DE) : Prop := ∀ (n : Nat) (c fa : Nat → Addr) (G : Fr) (X : Cx), Good Γ n c fa G N sc X → PT X e (tT (cnOf X c) G (callN Γ.tbl n) d)
def SW (Γ : Pg) (N : List Str) (sc : Scope) (e : Expr) (d : DE) : Prop := ∀ (n : Nat) (c fa : Nat → Addr) (G : Fr) (X : Cx), Good Γ n c fa G N sc X → PW X e (tT (cnOf X c) G (callN Γ.tbl n) d)
/-- .. of arguments -/
def tA (κ : Cn) (G : Fr) (cs : CS) (d : DEs) : TA := fun σ H Q => ∃ ρ st σp, At κ G ρ st H ∧ REnv κ (Fo G.B ρ) ρ H σp σ ∧ Out κ G ρ H (d cs σp st) fun vs _ ρ' H' => ∀ us, RVs κ (Fo G.B ρ') ρ' H' vs us → Q us H'
def SA (Γ : Pg) (N : List Str) (sc : Scope) (es : List Expr) (d : DEs) : Prop := ∀ (n : Nat) (c fa : Nat → Addr) (G : Fr) (X : Cx), Good Γ n c fa G N sc X → PA X es (tA (cnOf X c) G (callN Γ.tbl n) d)

theorem _root_.L2.PE.imp {X : Cx} {e : Expr} {t t' : TE} (h : PE X e t) (i : ∀ σ H Q, t' σ H Q → t σ H Q) : PE X e t' := ⟨fun pins s σ H Q I q => h.run pins s σ H Q I (i σ H Q q)⟩
theorem _root_.L2.PT.imp {X : Cx} {e : Expr} {t t' : TT} (h : PT X e t) (i : ∀ σ H Q, t' σ H Q → t σ H Q) : PT X e t' := ⟨fun pins s σ H Q I q => h.run pins s σ H Q I (i σ H Q q)⟩
theorem _root_.L2.PW.imp {X : Cx} {e : Expr} {t t' : TT} (h : PW X e t) (i : ∀ σ H Q, t' σ H Q → t σ H Q) : PW X e t' := ⟨fun wh pins s σ H Q I q => h.run wh pins s σ H Q I (i σ H Q q)⟩
theorem _root_.L2.PA.imp {X : Cx} {e : List Expr} {t t' : TA} (h : PA X e t) (i : ∀ σ H Q, t' σ H Q → t σ H Q) : PA X e t' := ⟨fun pos pins s σ H Q I q => h.run pos pins s σ H Q I (i σ H Q q)⟩

section
variable {Γ : Pg} {n : Nat} {c fa : Nat → Addr} {G : Fr} {N : List Str} {sc : Scope} {X : Cx} {κ : Cn} {cs : CS}
variable {a b e : Expr} {da db d : DE} {pos : Pos}
/-! ### how readings come one behind the other -/
theorem tE_bind {σ : St} {H : Hp} {Q : VK} {ρ : List Addr} {st : Store} {σp : Env} {β : Type} {f : PV → Store → Res β} {P : β → Store → List Addr → Hp → Prop} (A : At κ G ρ st H) (R : REnv κ (Fo G.B ρ) ρ H σp σ) (o : Out κ G ρ H ((d cs σp st).bind f) P)
    (h : ∀ v st1 ρ1 H1 u, Ext ρ H ρ1 H1 → At κ G ρ1 st1 H1 → REnv κ (Fo G.B ρ1) ρ1 H1 σp σ → RV κ (Fo G.B ρ1) ρ1 H1 v u → Out κ G ρ1 H1 (f v st1) P → Q u H1) : tE κ G cs d σ H Q :=
  ⟨ρ, st, σp, A, R, o.bind.mono fun v st1 ρ1 H1 e1 A1 o1 u r => h v st1 ρ1 H1 u e1 A1 (R.mono e1.mono) r o1⟩
theorem tA_bind {σ : St} {H : Hp} {Q : List V → Hp → Prop} {ρ : List Addr} {st : Store} {σp : Env} {β : Type} {d : DEs} {f : List PV → Store → Res β} {P : β → Store → List Addr → Hp → Prop} (A : At κ G ρ st H) (R : REnv κ (Fo G.B ρ) ρ H σp σ) (o : Out κ G ρ H ((d cs σp st).bind f) P)
    (h : ∀ v st1 ρ1 H1 u, Ext ρ H ρ1 H1 → At κ G ρ1 st1 H1 → REnv κ (Fo G.B ρ1) ρ1 H1 σp σ → RVs κ (Fo G.B ρ1) ρ1 H1 v u → Out κ G ρ1 H1 (f v st1) P → Q u H1) : tA κ G cs d σ H Q :=
  ⟨ρ, st, σp, A, R, o.bind.mono fun v st1 ρ1 H1 e1 A1 o1 u r => h v st1 ρ1 H1 u e1 A1 (R.mono e1.mono) r o1⟩
theorem tT_bind {σ : St} {H : Hp} {Q : Bool → Hp → Prop} {ρ : List Addr} {st : Store} {σp : Env} {β : Type} {f : PV → Store → Res β} {P : β → Store → List Addr → Hp → Prop} (A : At κ G ρ st H) (R : REnv κ (Fo G.B ρ) ρ H σp σ) (o : Out κ G ρ H ((d cs σp st).bind f) P)
    (h : ∀ v st1 ρ1 H1, Ext ρ H ρ1 H1 → At κ G ρ1 st1 H1 → REnv κ (Fo G.B ρ1) ρ1 H1 σp σ → Out κ G ρ1 H1 (f v st1) P → ∃ b, v = .bl b ∧ Q b H1) : tT κ G cs d σ H Q :=
  ⟨ρ, st, σp, A, R, o.bind.mono fun v st1 ρ1 H1 e1 A1 o1 => h v st1 ρ1 H1 e1 A1 (R.mono e1.mono) o1⟩

/-! ### names, constants -/
theorem SE.const {v : PV} {u : V} (h : ∀ X : Cx, PE X e (tC u)) (hv : ∀ κ F ρ H, RV κ F ρ H v u) : SE Γ N sc e (D.c v) := fun n c fa G X g =>
  (h X).imp fun σ H Q ⟨ρ, st, σp, A, R, o⟩ => o.ret A u (hv _ _ _ _)
theorem SE.int {i : Int} {j p} : SE Γ N sc (.Constant (.int i) j p) (D.c (.int i))   := .const (fun X => pe_int) fun _ _ _ _ => by simp only [RV]
theorem SE.bl {i : Bool} {j p} : SE Γ N sc (.Constant (.bool i) j p) (D.c (.bl i))   := .const (fun X => pe_bl) fun _ _ _ _ => by simp only [RV]
theorem SE.non {j p} : SE Γ N sc (.Constant .none j p) (D.c .non)   := .const (fun X => pe_non) fun _ _ _ _ => by simp only [RV]
theorem SE.str {x y : Str} {j p} (h : x = y) : SE Γ N sc (.Constant (.str x) j p) (D.c (.str y)) := by
  subst h
  exact .const (fun X => pe_str) fun _ _ _ _ => by simp only [RV]
def VisB (sc : Scope) (x : Str) : Bool := match sc.names.lookup x with
  | some .local => true
  | some .cell => true
  | some .free => true
  | _ => false
theorem vis_of {x : Str} (h : VisB sc x = true) : Vis sc x := by
  unfold VisB at h
  unfold Vis
  cases q : sc.names.lookup x with
  | none => rw [q] at h; cases h
  | some k => cases k <;> simp_all
def nameOk (x : Str) : Bool := !(x == ("__debug__" : Str)) && !(x == ("__classdict__" : Str)) && !(x == ("__name__" : Str))
theorem nameOk_d {x : Str} (h : nameOk x = true) : (x == ("__debug__" : Str)) = false := by
  unfold nameOk at h; simp only [Bool.and_eq_true, Bool.not_eq_true'] at h; exact h.1.1
theorem nameOk_c {x : Str} (h : nameOk x = true) : (x == ("__classdict__" : Str)) = false := by
  unfold nameOk at h; simp only [Bool.and_eq_true, Bool.not_eq_true'] at h; exact h.1.2
theorem nameOk_n {x : Str} (h : nameOk x = true) : x ≠ ("__name__" : Str) := by
  unfold nameOk at h; simp only [Bool.and_eq_true, Bool.not_eq_true'] at h
  intro e
  have := h.2
  rw [e] at this
  simp at this
/-- all that a local name asks, by computing -/
def okVar (N : List Str) (sc : Scope) (i : Nat) (x : Str) : Bool := decide (N[i]? = some x) && VisB sc x && nameOk x
theorem SE.var {i : Nat} {x : Str} {p : Pos} (h : okVar N sc i x = true) : SE Γ N sc (.Name x p) (D.var i) := fun n c fa G X g => by
  unfold okVar at h
  simp only [Bool.and_eq_true, decide_eq_true_eq] at h
  refine (pe_var (i := i) (by rw [g.hN]; exact h.1.1) (by rw [g.hsc]; exact vis_of h.1.2) (nameOk_d h.2) (nameOk_c h.2)).imp ?_
  rintro σ H Q ⟨ρ, st, σp, A, R, o⟩
  unfold D.var at o
  split at o
  · rename_i p e
    obtain ⟨v, e1, r⟩ := R.2 _ _ e
    exact ⟨v, e1, o.ret A v r⟩
  · exact o.elim
def GlB (sc : Scope) (x : Str) : Bool := match sc.names.lookup x with
  | some .globalImplicit => true
  | _ => false
theorem gl_of {x : Str} (g : Good Γ n c fa G N sc X) (h : GlB sc x = true) : Gl X x := by
  unfold GlB at h
  show X.env.scope.names.lookup x = some .globalImplicit
  rw [g.hsc]
  cases q : sc.names.lookup x with
  | none => rw [q] at h; cases h
  | some k => cases k <;> simp_all
/-- a constant of the module -/
theorem SE.glob {x : Str} {v : PV} {p : Pos} (h : (GlB sc x && nameOk x) = true) (hc : Γ.consts x = some v) : SE Γ N sc (.Name x p) (D.c v) := fun n c fa G X g => by
  simp only [Bool.and_eq_true] at h
  obtain ⟨u, w, hm, r, hv⟩ := g.env.ct x v hc
  refine (pe_glob (gl_of g h.1) hm r (nameOk_d h.2)).imp ?_
  rintro σ H Q ⟨ρ, st, σp, A, R, o⟩
  exact o.ret A w (hv _ _ _)

/-! ### arguments, displays -/
theorem SA.nil : SA Γ N sc [] D.nil := fun n c fa G X g => pa_nil.imp fun σ H Q ⟨ρ, st, σp, A, R, o⟩ => o.ret A [] RVs.nil
theorem SA.cons {es : List Expr} {ds : DEs} (ha : SE Γ N sc a da) (hs : SA Γ N sc es ds) (hst : ∀ env, starEach (a :: es) env = (false, eval a env) :: starEach es env := by intro _; rfl) : SA Γ N sc (a :: es) (D.cons da ds) := fun n c fa G X g => by
  refine (pa_cons (ha n c fa G X g) (hs n c fa G X g) (hst _)).imp ?_
  rintro σ H Q ⟨ρ, st, σp, A, R, o⟩
  refine tE_bind A R o fun v st1 ρ1 H1 u e1 A1 R1 r o1 => ?_
  refine tA_bind A1 R1 o1 fun vs st2 ρ2 H2 us e2 A2 R2 rs o2 => ?_
  exact o2.ret A2 _ (RVs.cons (r.mono e2.mono) rs)
theorem big : 1000000 ≤ sizeLine := by decide +kernel
theorem big' : 1000000 < sizeLine := by decide +kernel
theorem SE.tup {es : List Expr} {ds : DEs} {x} (hs : SA Γ N sc es ds) : SE Γ N sc (.Tuple es x pos) (D.tup ds) := fun n c fa G X g => by
  refine (pe_tup (hs n c fa G X g)).imp ?_
  rintro σ H Q ⟨ρ, st, σp, A, R, o⟩
  refine tA_bind A R o fun vs st1 ρ1 H1 us e1 A1 R1 rs o1 => ?_
  split at o1
  · rename_i hl
    refine ⟨by rw [← rs.length]; exact Nat.le_trans hl big, fun p hp => ?_⟩
    have e2 : Ext ρ1 H1 ρ1 (upd H1 p (.tup us)) := ext_new hp
    refine o1 ρ1 _ e2 (A1.step e2 (A1.wd.new hp)) _ ?_
    simp only [RV]
    exact ⟨p, us, rfl, .inl (.inl upd_same), rs.mono e2.mono⟩
  · exact o1.elim

/-! ### lists made just now -/
/-- the reading of what makes a list: kept as a value, or laid into the store -/
def tF (κ : Cn) (G : Fr) (cs : CS) (d : DE) : TE := fun σ H Q => ∃ ρ st σp, At κ G ρ st H ∧ REnv κ (Fo G.B ρ) ρ H σp σ ∧ Out κ G ρ H (d cs σp st) fun v st' ρ' H' => ∃ ps, v = .lst ps ∧
  ∀ us p, RVs κ (Fo G.B ρ') ρ' H' ps us → H' p = none → Q (.ref p) (upd H' p (.lst us))
def SEF (Γ : Pg) (N : List Str) (sc : Scope) (e : Expr) (d : DE) : Prop := ∀ (n : Nat) (c fa : Nat → Addr) (G : Fr) (X : Cx), Good Γ n c fa G N sc X → PE X e (tF (cnOf X c) G (callN Γ.tbl n) d)
/-- it makes lists alone -/
def LstOnly (d : DE) : Prop := ∀ cs σ st v st', d cs σ st = .ok v st' → ∃ ps, v = .lst ps
theorem tF_val (hl : LstOnly d) : ∀ σ H Q, tE κ G cs d σ H Q → tF κ G cs d σ H Q := by
  rintro σ H Q ⟨ρ, st, σp, A, R, o⟩
  refine ⟨ρ, st, σp, A, R, ?_⟩
  cases q : d (cs) σp st with
  | ok v st' =>
    obtain ⟨ps, rfl⟩ := hl _ _ _ _ _ q
    rw [q] at o
    intro ρ' H' e' A'
    refine ⟨ps, rfl, fun us p rs hp => ?_⟩
    have e2 : Ext ρ' H' ρ' (upd H' p (.lst us)) := ext_new hp
    refine o ρ' _ (e'.trans e2) (A'.step e2 (A'.wd.new hp)) _ ?_
    simp only [RV]
    exact ⟨p, us, rfl, upd_same, A'.wd.fo hp, rs.mono e2.mono⟩
  | exc e st' => rw [q] at o; exact o
  | bad => rw [q] at o; exact o
theorem SEF.val (h : SEF Γ N sc e d) (hl : LstOnly d) : SE Γ N sc e d := fun n c fa G X g => (h n c fa G X g).imp (tF_val hl)
theorem tF_fresh (hl : LstOnly d) : ∀ σ H Q, tE κ G cs (D.fresh d) σ H Q → tF κ G cs d σ H Q := by
  rintro σ H Q ⟨ρ, st, σp, A, R, o⟩
  refine ⟨ρ, st, σp, A, R, ?_⟩
  unfold D.fresh at o
  cases q : d (cs) σp st with
  | ok v st' =>
    obtain ⟨ps, rfl⟩ := hl _ _ _ _ _ q
    rw [q] at o
    intro ρ' H' e' A'
    refine ⟨ps, rfl, fun us p rs hp => ?_⟩
    have e2 : Ext ρ' H' (ρ' ++ [p]) (upd H' p (.lst us)) := ext_add hp _ rfl
    refine o _ _ (e'.trans e2) (A'.step e2 (A'.wd.add hp ⟨us, upd_same, rs.mono e2.mono⟩)) _ ?_
    simp only [RV]
    exact ⟨p, rfl, by rw [← A'.wd.len]; simp⟩
  | exc e st' => rw [q] at o; exact o
  | bad => rw [q] at o; exact o
theorem SEF.fresh (h : SEF Γ N sc e d) (hl : LstOnly d) : SE Γ N sc e (D.fresh d) := fun n c fa G X g => (h n c fa G X g).imp (tF_fresh hl)
theorem SEF.lst {es : List Expr} {ds : DEs} (hs : SA Γ N sc es ds) : SEF Γ N sc (.List es pos) (D.lst ds) := fun n c fa G X g => by
  refine (pe_lst (hs n c fa G X g)).imp ?_
  rintro σ H Q ⟨ρ, st, σp, A, R, o⟩
  refine tA_bind A R o fun vs st1 ρ1 H1 us e1 A1 R1 rs o1 => ?_
  split at o1
  · rename_i hl
    refine ⟨by rw [← rs.length]; exact Nat.le_trans hl big, fun p hp => ?_⟩
    obtain ⟨ps, e, h⟩ := o1.ret A1
    cases e
    exact h us p rs hp
  · exact o1.elim
theorem lstOnly_bind {α : Type} {r : Res α} {f : α → Store → Res PV} {v : PV} {st' : Store} (h : r.bind f = .ok v st') (k : ∀ a st, r = .ok a st → f a st = .ok v st' → ∃ ps, v = .lst ps) : ∃ ps, v = .lst ps := by
  cases r with
  | ok a st => exact k a st rfl h
  | exc e st => cases h
  | bad => cases h
theorem lo_lst {ds : DEs} : LstOnly (D.lst ds) := fun cs σ st v st' h => lstOnly_bind h fun a st1 _ q => by
  split at q
  · cases q; exact ⟨_, rfl⟩
  · cases q
theorem SE.lst {es : List Expr} {ds : DEs} (hs : SA Γ N sc es ds) : SE Γ N sc (.List es pos) (D.lst ds) := (SEF.lst hs).val lo_lst

/-! ### and, or, not, conditional expressions -/
theorem SE.and1 {op} (h : SE Γ N sc a da) : SE Γ N sc (.BoolOp op [a] pos) da := fun n c fa G X g => pe_one (h n c fa G X g)
theorem rv_bl {F : Addr → Prop} {ρ : List Addr} {H : Hp} {b : Bool} {u : V} (h : RV κ F ρ H (.bl b) u) : u = .bl b := by simpa only [RV] using h
theorem rv_int {F : Addr → Prop} {ρ : List Addr} {H : Hp} {b : Int} {u : V} (h : RV κ F ρ H (.int b) u) : u = .int b := by simpa only [RV] using h
theorem rv_str {F : Addr → Prop} {ρ : List Addr} {H : Hp} {b : Str} {u : V} (h : RV κ F ρ H (.str b) u) : u = .str b := by simpa only [RV] using h
theorem rv_non {F : Addr → Prop} {ρ : List Addr} {H : Hp} {u : V} (h : RV κ F ρ H .non u) : u = .non := by simpa only [RV] using h
theorem SE.and {rest : List Expr} (ha : SE Γ N sc a da) (hb : SE Γ N sc (.BoolOp .And (b :: rest) pos) db) : SE Γ N sc (.BoolOp .And (a :: b :: rest) pos) (D.and da db) := fun n c fa G X g => by
  refine (pe_and (ha n c fa G X g) (hb n c fa G X g)).imp ?_
  rintro σ H Q ⟨ρ, st, σp, A, R, o⟩
  refine tE_bind A R o fun v st1 ρ1 H1 u e1 A1 R1 r o1 => ?_
  split at o1
  · exact ⟨true, rv_bl r, ⟨ρ1, st1, σp, A1, R1, o1⟩⟩
  · exact ⟨false, rv_bl r, o1.ret A1 _ (by simp only [RV])⟩
  · exact o1.elim
theorem SE.or {rest : List Expr} (ha : SE Γ N sc a da) (hb : SE Γ N sc (.BoolOp .Or (b :: rest) pos) db) : SE Γ N sc (.BoolOp .Or (a :: b :: rest) pos) (D.or da db) := fun n c fa G X g => by
  refine (pe_or (ha n c fa G X g) (hb n c fa G X g)).imp ?_
  rintro σ H Q ⟨ρ, st, σp, A, R, o⟩
  refine tE_bind A R o fun v st1 ρ1 H1 u e1 A1 R1 r o1 => ?_
  split at o1
  · exact ⟨true, rv_bl r, o1.ret A1 _ (by simp only [RV])⟩
  · exact ⟨false, rv_bl r, ⟨ρ1, st1, σp, A1, R1, o1⟩⟩
  · exact o1.elim
theorem SE.not (ha : SE Γ N sc a da) : SE Γ N sc (.UnaryOp .Not a pos) (D.not da) := fun n c fa G X g => by
  refine (pe_not (ha n c fa G X g)).imp ?_
  rintro σ H Q ⟨ρ, st, σp, A, R, o⟩
  refine tE_bind A R o fun v st1 ρ1 H1 u e1 A1 R1 r o1 => ?_
  split at o1
  · exact ⟨_, rv_bl r, o1.ret A1 _ (by simp only [RV])⟩
  · exact o1.elim
/-! tests -/
theorem ST.val (ha : SE Γ N sc a da) (he : ∀ env whole, PySem.isTrue a env whole = (do let v ← whole; standAt a.pos; holding [v] (truthy v)) := by intro _ _; rfl) : ST Γ N sc a da := fun n c fa G X g => by
  refine (pt_val (ha n c fa G X g) (he _)).imp ?_
  rintro σ H Q ⟨ρ, st, σp, A, R, o⟩
  refine ⟨ρ, st, σp, A, R, o.mono fun v st1 ρ1 H1 e1 A1 ⟨b, e, q⟩ u r => ?_⟩
  subst e
  exact ⟨b, rv_bl r, q⟩
theorem ST.not (ha : ST Γ N sc a da) : ST Γ N sc (.UnaryOp .Not a pos) (D.not da) := fun n c fa G X g => by
  refine (pt_not (ha n c fa G X g)).imp ?_
  rintro σ H Q ⟨ρ, st, σp, A, R, o⟩
  refine tT_bind A R o fun v st1 ρ1 H1 e1 A1 R1 o1 => ?_
  split at o1
  · obtain ⟨b', e, q⟩ := o1.ret A1
    cases e
    exact ⟨_, rfl, q⟩
  · exact o1.elim
theorem SW.and1 (h : ST Γ N sc a da) : SW Γ N sc (.BoolOp .And [a] pos) da := fun n c fa G X g => pw_and1 (h n c fa G X g)
theorem SW.or1 (h : ST Γ N sc a da) : SW Γ N sc (.BoolOp .Or [a] pos) da := fun n c fa G X g => pw_or1 (h n c fa G X g)
theorem SW.and {rest : List Expr} (ha : ST Γ N sc a da) (hb : SW Γ N sc (.BoolOp .And (b :: rest) pos) db) : SW Γ N sc (.BoolOp .And (a :: b :: rest) pos) (D.and da db) := fun n c fa G X g => by
  refine (pw_and (ha n c fa G X g) (hb n c fa G X g)).imp ?_
  rintro σ H Q ⟨ρ, st, σp, A, R, o⟩
  refine tT_bind A R o fun v st1 ρ1 H1 e1 A1 R1 o1 => ?_
  split at o1
  · exact ⟨true, rfl, ⟨ρ1, st1, σp, A1, R1, o1⟩⟩
  · obtain ⟨b', e, q⟩ := o1.ret A1
    cases e
    exact ⟨false, rfl, q⟩
  · exact o1.elim
theorem SW.or {rest : List Expr} (ha : ST Γ N sc a da) (hb : SW Γ N sc (.BoolOp .Or (b :: rest) pos) db) : SW Γ N sc (.BoolOp .Or (a :: b :: rest) pos) (D.or da db) := fun n c fa G X g => by
  refine (pw_or (ha n c fa G X g) (hb n c fa G X g)).imp ?_
  rintro σ H Q ⟨ρ, st, σp, A, R, o⟩
  refine tT_bind A R o fun v st1 ρ1 H1 e1 A1 R1 o1 => ?_
  split at o1
  · obtain ⟨b', e, q⟩ := o1.ret A1
    cases e
    exact ⟨true, rfl, q⟩
  · exact ⟨false, rfl, ⟨ρ1, st1, σp, A1, R1, o1⟩⟩
  · exact o1.elim
theorem SW.st (h : SW Γ N sc a da) : ST Γ N sc a da := fun n c fa G X g => (h n c fa G X g).pt
theorem SE.ite {t : Expr} {dt : DE} (ht : ST Γ N sc t dt) (ha : SE Γ N sc a da) (hb : SE Γ N sc b db) : SE Γ N sc (.IfExp t a b pos) (D.ite dt da db) := fun n c fa G X g => by
  refine (pe_ifExp (ht n c fa G X g) (ha n c fa G X g) (hb n c fa G X g)).imp ?_
  rintro σ H Q ⟨ρ, st, σp, A, R, o⟩
  refine tT_bind A R o fun v st1 ρ1 H1 e1 A1 R1 o1 => ?_
  split at o1
  · exact ⟨true, rfl, ⟨ρ1, st1, σp, A1, R1, o1⟩⟩
  · exact ⟨false, rfl, ⟨ρ1, st1, σp, A1, R1, o1⟩⟩
  · exact o1.elim
end
end Dn

/-! Operators by values. -/
namespace Dn
open PySem L2

/-- as RV, of what is read now -/
def RR (κ : Cn) (F : Addr → Prop) (ρ : List Addr) (H : Hp) : PV → V → Prop
  | .lst ps, v => ∃ a xs, v = .ref a ∧ H a = some (.lst xs) ∧ RVs κ F ρ H ps xs
  | .dic false kvs, v => ∃ a es, v = .ref a ∧ H a = some (.dK es) ∧ RKs κ F ρ H kvs es
  | .dic true kvs, v => ∃ a es, v = .ref a ∧ H a = some (dTO κ a es) ∧ RTs κ F ρ H kvs es
  | p, v => RV κ F ρ H p v
section
variable {κ : Cn} {G : Fr} {B : Addr → Prop} {F : Addr → Prop} {ρ ρ' : List Addr} {H H' : Hp} {st : Store}
theorem RR.of' {p : PV} {v : V} (h : RV κ F ρ H p v) : RR κ F ρ H p v := by
  cases p with
  | lst ps =>
    simp only [RV] at h
    obtain ⟨a, xs, e, h1, _, h2⟩ := h
    exact ⟨a, xs, e, h1, h2⟩
  | dic t kvs =>
    cases t <;>
    · simp only [RV] at h
      obtain ⟨a, xs, e, h1, _, h2⟩ := h
      exact ⟨a, xs, e, h1, h2⟩
  | _ => exact h
theorem RR.of (W : Wd κ B ρ st H) {p : PV} {v : V} (h : RV κ (Fo B ρ) ρ H p v) : RR κ (Fo B ρ) ρ H (deref st p) v := by
  cases p with
  | ref n =>
    simp only [RV] at h
    obtain ⟨a, rfl, h1⟩ := h
    show RR κ (Fo B ρ) ρ H (match st[n]? with | some (.lst xs) => .lst xs | some (.dic t kvs) => .dic t kvs | _ => .ref n) _
    cases q : st[n]? with
    | none => exact ⟨a, rfl, h1⟩
    | some o =>
      have := W.ob n o a q h1
      cases o with
      | lst ps => obtain ⟨xs, e1, e2⟩ := this; exact ⟨a, xs, rfl, e1, e2⟩
      | dic t kvs => cases t <;> (obtain ⟨xs, e1, e2⟩ := this; exact ⟨a, xs, rfl, e1, e2⟩)
      | ins c fs => exact ⟨a, rfl, h1⟩
  | _ => exact RR.of' h

/-- an operator's rule serves the machine's function -/
def OpS (κ : Cn) (G : Fr) (f : PV → PV → Option PV) (r : R2) : Prop := ∀ ρ st H p q v x y Q, At κ G ρ st H → RR κ (Fo G.B ρ) ρ H p x → RR κ (Fo G.B ρ) ρ H q y → f p q = some v →
  (∀ ρ' H' u, Ext ρ H ρ' H' → At κ G ρ' st H' → RV κ (Fo G.B ρ') ρ' H' v u → Q u H') → r x y H Q
def UnS (κ : Cn) (G : Fr) (f : PV → Option PV) (r : V → Hp → VK → Prop) : Prop := ∀ ρ st H p v x Q, At κ G ρ st H → RR κ (Fo G.B ρ) ρ H p x → f p = some v →
  (∀ ρ' H' u, Ext ρ H ρ' H' → At κ G ρ' st H' → RV κ (Fo G.B ρ') ρ' H' v u → Q u H') → r x H Q
end
section
variable {Γ : Pg} {n : Nat} {c fa : Nat → Addr} {G : Fr} {N : List Str} {sc : Scope} {X : Cx} {κ : Cn} {cs : CS}
variable {a b e d : Expr} {da db dd : DE} {pos : Pos}
/-- the rule for every frame -/
def Op2 (Γ : Pg) (N : List Str) (sc : Scope) (fn : Value → Value → Sem Value) (f : PV → PV → Option PV) : Prop := ∀ (n : Nat) (c fa : Nat → Addr) (G : Fr) (X : Cx), Good Γ n c fa G N sc X → ∃ r, OpR X fn r ∧ OpS (cnOf X c) G f r
def Op1 (Γ : Pg) (N : List Str) (sc : Scope) (fn : Value → Sem Value) (f : PV → Option PV) : Prop := ∀ (n : Nat) (c fa : Nat → Addr) (G : Fr) (X : Cx), Good Γ n c fa G N sc X → ∃ r, UnR X fn r ∧ UnS (cnOf X c) G f r
theorem op2_read {r : R2} {f : PV → PV → Option PV} (s : OpS κ G f r) {σ : St} {H : Hp} {Q : VK} (h : tE κ G cs (D.op2 f da db) σ H Q) : tOp r (tE κ G cs da) (tE κ G cs db) σ H Q := by
  obtain ⟨ρ, st, σp, A, R, o⟩ := h
  refine tE_bind A R o fun v st1 ρ1 H1 u e1 A1 R1 ru o1 => ?_
  refine tE_bind A1 R1 o1 fun w st2 ρ2 H2 z e2 A2 R2 rz o2 => ?_
  obtain ⟨res, ef, k⟩ := o2.of
  exact s ρ2 st2 H2 _ _ res u z Q A2 (RR.of A2.wd (ru.mono e2.mono)) (RR.of A2.wd rz) ef fun ρ' H' u' e' A' r' => k ρ' H' e' A' u' r'
theorem op1_read {r : V → Hp → VK → Prop} {f : PV → Option PV} (s : UnS κ G f r) {σ : St} {H : Hp} {Q : VK} (h : tE κ G cs (D.op1 f da) σ H Q) : tUn r (tE κ G cs da) σ H Q := by
  obtain ⟨ρ, st, σp, A, R, o⟩ := h
  refine tE_bind A R o fun v st1 ρ1 H1 u e1 A1 R1 ru o1 => ?_
  obtain ⟨res, ef, k⟩ := o1.of
  exact s ρ1 st1 H1 _ res u Q A1 (RR.of A1.wd ru) ef fun ρ' H' u' e' A' r' => k ρ' H' e' A' u' r'
theorem SE.bin {op : Operator} {f : PV → PV → Option PV} (h : Op2 Γ N sc (binaryOp op) f) (ha : SE Γ N sc a da) (hb : SE Γ N sc b db) : SE Γ N sc (.BinOp a op b pos) (D.op2 f da db) := fun n c fa G X g => by
  obtain ⟨r, h1, h2⟩ := h n c fa G X g
  exact (pe_op h1 (ha n c fa G X g) (hb n c fa G X g)).imp fun σ H Q q => op2_read h2 q
theorem SE.cmp {op : CmpOp} {f : PV → PV → Option PV} (h : Op2 Γ N sc (compareOp op) f) (ha : SE Γ N sc a da) (hb : SE Γ N sc b db) (hm : behindInMarks op b = false) : SE Γ N sc (.Compare a [op] [b] pos) (D.op2 f da db) := fun n c fa G X g => by
  obtain ⟨r, h1, h2⟩ := h n c fa G X g
  exact (pe_cmpR h1 (ha n c fa G X g) (hb n c fa G X g) hm).imp fun σ H Q q => op2_read h2 q
theorem tT_test {t : TE} {d : DE} (i : ∀ σ H Q, tE κ G cs d σ H Q → t σ H Q) {σ : St} {H : Hp} {Q : Bool → Hp → Prop} (h : tT κ G cs d σ H Q) : tTest t σ H Q := by
  obtain ⟨ρ, st, σp, A, R, o⟩ := h
  refine i σ H _ ⟨ρ, st, σp, A, R, o.mono fun v st1 ρ1 H1 e1 A1 ⟨b, e, q⟩ u r => ?_⟩
  subst e
  exact ⟨b, rv_bl r, q⟩
theorem ST.cmp {op : CmpOp} {f : PV → PV → Option PV} (h : Op2 Γ N sc (compareOp op) f) (ha : SE Γ N sc a da) (hb : SE Γ N sc b db) (hm : behindInMarks op b = false) : ST Γ N sc (.Compare a [op] [b] pos) (D.op2 f da db) := fun n c fa G X g => by
  obtain ⟨r, h1, h2⟩ := h n c fa G X g
  exact (pt_cmpR h1 (ha n c fa G X g) (hb n c fa G X g) hm).imp fun σ H Q q => tT_test (fun σ H Q q => op2_read h2 q) q
theorem SE.un {op : UnaryOp} {f : PV → Option PV} (h : Op1 Γ N sc (unaryOp op) f) (ha : SE Γ N sc a da) : SE Γ N sc (.UnaryOp op a pos) (D.op1 f da) := fun n c fa G X g => by
  obtain ⟨r, h1, h2⟩ := h n c fa G X g
  exact (pe_un h1 (ha n c fa G X g)).imp fun σ H Q q => op1_read h2 q
theorem chain_read {r r' : R2} {f f' : PV → PV → Option PV} (s : OpS κ G f r) (s' : OpS κ G f' r') {σ : St} {H : Hp} {Q : VK} (h : tE κ G cs (D.chain f f' da db dd) σ H Q) : tChain r r' (tE κ G cs da) (tE κ G cs db) (tE κ G cs dd) σ H Q := by
  obtain ⟨ρ, st, σp, A, R, o⟩ := h
  refine tE_bind A R o fun v st1 ρ1 H1 u e1 A1 R1 ru o1 => ?_
  refine tE_bind A1 R1 o1 fun w st2 ρ2 H2 z e2 A2 R2 rz o2 => ?_
  obtain ⟨res, ef, k⟩ := o2.bind.of
  refine s ρ2 st2 H2 _ _ res u z _ A2 (RR.of A2.wd (ru.mono e2.mono)) (RR.of A2.wd rz) ef fun ρ3 H3 u' e3 A3 r3 => ?_
  have o3 := k ρ3 H3 e3 A3
  split at o3
  · refine ⟨true, rv_bl r3, ?_⟩
    refine tE_bind A3 (R2.mono e3.mono) o3 fun t st4 ρ4 H4 y e4 A4 R4 ry o4 => ?_
    obtain ⟨res', ef', k'⟩ := o4.of
    exact s' ρ4 st4 H4 _ _ res' z y Q A4 (RR.of A4.wd ((rz.mono e3.mono).mono e4.mono)) (RR.of A4.wd ry) ef' fun ρ' H' u' e' A' r' => k' ρ' H' e' A' u' r'
  · exact ⟨false, rv_bl r3, o3.ret A3 _ (by simp only [RV])⟩
  · exact o3.elim
theorem SE.chain {op op' : CmpOp} {f f' : PV → PV → Option PV} (h : Op2 Γ N sc (compareOp op) f) (h' : Op2 Γ N sc (compareOp op') f') (ha : SE Γ N sc a da) (hb : SE Γ N sc b db) (hd : SE Γ N sc d dd) (hl : lastMarks [op, op'] [b, d] = false) :
    SE Γ N sc (.Compare a [op, op'] [b, d] pos) (D.chain f f' da db dd) := fun n c fa G X g => by
  obtain ⟨r, h1, h2⟩ := h n c fa G X g
  obtain ⟨r', h1', h2'⟩ := h' n c fa G X g
  exact (pe_chain h1 h1' (ha n c fa G X g) (hb n c fa G X g) (hd n c fa G X g) hl).imp fun σ H Q q => chain_read h2 h2' q
theorem ST.chain {op op' : CmpOp} {f f' : PV → PV → Option PV} (h : Op2 Γ N sc (compareOp op) f) (h' : Op2 Γ N sc (compareOp op') f') (ha : SE Γ N sc a da) (hb : SE Γ N sc b db) (hd : SE Γ N sc d dd) (hl : lastMarks [op, op'] [b, d] = false) :
    ST Γ N sc (.Compare a [op, op'] [b, d] pos) (D.chain f f' da db dd) := fun n c fa G X g => by
  obtain ⟨r, h1, h2⟩ := h n c fa G X g
  obtain ⟨r', h1', h2'⟩ := h' n c fa G X g
  exact (pt_chain h1 h1' (ha n c fa G X g) (hb n c fa G X g) (hd n c fa G X g) hl).imp fun σ H Q q => tT_test (fun σ H Q q => chain_read h2 h2' q) q

/-! ### the operators -/
theorem rr_int {F : Addr → Prop} {ρ : List Addr} {H : Hp} {i : Int} {u : V} (h : RR κ F ρ H (.int i) u) : u = .int i := by simpa only [RR, RV] using h
theorem rr_bl {F : Addr → Prop} {ρ : List Addr} {H : Hp} {i : Bool} {u : V} (h : RR κ F ρ H (.bl i) u) : u = .bl i := by simpa only [RR, RV] using h
theorem rr_str {F : Addr → Prop} {ρ : List Addr} {H : Hp} {i : Str} {u : V} (h : RR κ F ρ H (.str i) u) : u = .str i := by simpa only [RR, RV] using h
theorem rr_non {F : Addr → Prop} {ρ : List Addr} {H : Hp} {u : V} (h : RR κ F ρ H .non u) : u = .non := by simpa only [RR, RV] using h
theorem rr_tup {F : Addr → Prop} {ρ : List Addr} {H : Hp} {ps : List PV} {u : V} (h : RR κ F ρ H (.tup ps) u) : ∃ a xs, u = .ref a ∧ SqT κ.K H a xs ∧ RVs κ F ρ H ps xs := by simpa only [RR, RV] using h
theorem rr_lst {F : Addr → Prop} {ρ : List Addr} {H : Hp} {ps : List PV} {u : V} (h : RR κ F ρ H (.lst ps) u) : ∃ a xs, u = .ref a ∧ H a = some (.lst xs) ∧ RVs κ F ρ H ps xs := h
theorem OpS.or {f : PV → PV → Option PV} {r r' : R2} (h : ∀ ρ st H p q v x y Q, At κ G ρ st H → RR κ (Fo G.B ρ) ρ H p x → RR κ (Fo G.B ρ) ρ H q y → f p q = some v →
    (∀ ρ' H' u, Ext ρ H ρ' H' → At κ G ρ' st H' → RV κ (Fo G.B ρ') ρ' H' v u → Q u H') → r x y H Q ∨ r' x y H Q) : OpS κ G f (fun x y H Q => r x y H Q ∨ r' x y H Q) := h
/-- the result stands as it is -/
theorem now {ρ : List Addr} {st : Store} {H : Hp} {v : PV} {Q : VK} {u : V} (A : At κ G ρ st H) (k : ∀ ρ' H' u, Ext ρ H ρ' H' → At κ G ρ' st H' → RV κ (Fo G.B ρ') ρ' H' v u → Q u H') (r : RV κ (Fo G.B ρ) ρ H v u) : Q u H := k ρ H u Ext.refl A r
/-- a new tuple -/
theorem newT {ρ : List Addr} {st : Store} {H : Hp} {ps : List PV} {Q : VK} {xs : List V} {p : Addr} (A : At κ G ρ st H) (k : ∀ ρ' H' u, Ext ρ H ρ' H' → At κ G ρ' st H' → RV κ (Fo G.B ρ') ρ' H' (.tup ps) u → Q u H') (r : RVs κ (Fo G.B ρ) ρ H ps xs) (hp : H p = none) : Q (.ref p) (upd H p (.tup xs)) := by
  have e2 : Ext ρ H ρ (upd H p (.tup xs)) := ext_new hp
  refine k ρ _ _ e2 (A.step e2 (A.wd.new hp)) ?_
  simp only [RV]
  exact ⟨p, xs, rfl, .inl (.inl upd_same), r.mono e2.mono⟩
/-- a new list, kept as a value -/
theorem newL {ρ : List Addr} {st : Store} {H : Hp} {ps : List PV} {Q : VK} {xs : List V} {p : Addr} (A : At κ G ρ st H) (k : ∀ ρ' H' u, Ext ρ H ρ' H' → At κ G ρ' st H' → RV κ (Fo G.B ρ') ρ' H' (.lst ps) u → Q u H') (r : RVs κ (Fo G.B ρ) ρ H ps xs) (hp : H p = none) : Q (.ref p) (upd H p (.lst xs)) := by
  have e2 : Ext ρ H ρ (upd H p (.lst xs)) := ext_new hp
  refine k ρ _ _ e2 (A.step e2 (A.wd.new hp)) ?_
  simp only [RV]
  exact ⟨p, xs, rfl, upd_same, A.wd.fo hp, r.mono e2.mono⟩
theorem big_of {m : Nat} (h : m ≤ 1000000) : m ≤ sizeLine := Nat.le_trans h big
theorem o_add : Op2 Γ N sc (binaryOp .Add) O.add := fun n c fa G X g => by
  refine ⟨_, OpR.or op_add (OpR.or op_catA (OpR.or op_add_str op_cat)), ?_⟩
  intro ρ st H p q v x y Q A rp rq ef k
  unfold O.add at ef
  split at ef
  · cases ef
    exact .inl ⟨_, _, rr_int rp, rr_int rq, now A k (by simp only [RV])⟩
  · rename_i ps qs
    split at ef
    · rename_i hl
      cases ef
      obtain ⟨a, xs, rfl, h1, r1⟩ := rr_tup rp
      obtain ⟨b, ys, rfl, h2, r2⟩ := rr_tup rq
      refine .inr (.inl ⟨a, b, xs, ys, rfl, rfl, h1, h2, by rw [← r1.length, ← r2.length]; exact big_of hl, fun e => ?_, fun e e' => ?_, fun e e' p hp => ?_⟩)
      · subst e
        have : ps = [] := List.length_eq_zero_iff.mp (r1.length)
        subst this
        exact now A k (by simp only [RV]; exact ⟨b, ys, rfl, h2, r2⟩)
      · subst e'
        have : qs = [] := List.length_eq_zero_iff.mp (r2.length)
        subst this
        exact now A k (by simp only [RV, List.append_nil]; exact ⟨a, xs, rfl, h1, r1⟩)
      · exact newT A k (r1.append r2) hp
    · cases ef
  · rename_i ps qs
    split at ef
    · rename_i hl
      cases ef
      obtain ⟨a, xs, rfl, h1, r1⟩ := rr_lst rp
      obtain ⟨b, ys, rfl, h2, r2⟩ := rr_lst rq
      exact .inr (.inr (.inr ⟨a, b, xs, ys, rfl, rfl, h1, h2, by rw [← r1.length, ← r2.length]; exact big_of hl, fun p hp => newL A k (r1.append r2) hp⟩))
    · cases ef
  · split at ef
    · rename_i hl
      cases ef
      exact .inr (.inr (.inl ⟨_, _, rr_str rp, rr_str rq, big_of hl, now A k (by simp only [RV])⟩))
    · cases ef
  · cases ef
theorem o_sub : Op2 Γ N sc (binaryOp .Sub) O.sub := fun n c fa G X g => by
  refine ⟨_, op_sub, ?_⟩
  intro ρ st H p q v x y Q A rp rq ef k
  unfold O.sub at ef
  split at ef
  · cases ef
    exact ⟨_, _, rr_int rp, rr_int rq, now A k (by simp only [RV])⟩
  · cases ef
theorem small_of {i : Int} (h : O.small i = true) : -(2 ^ 64) < i ∧ i < 2 ^ 64 := by
  unfold O.small at h
  simp only [Bool.and_eq_true, decide_eq_true_eq] at h
  have e : (2 : Int) ^ 64 = 18446744073709551616 := by decide
  rw [e]
  exact h
theorem o_mul : Op2 Γ N sc (binaryOp .Mult) O.mul := fun n c fa G X g => by
  refine ⟨_, OpR.or op_mul op_repT, ?_⟩
  intro ρ st H p q v x y Q A rp rq ef k
  unfold O.mul at ef
  split at ef
  · split at ef
    · rename_i hs
      cases ef
      rw [Bool.or_eq_true] at hs
      refine .inl ⟨_, _, rr_int rp, rr_int rq, ?_, now A k (by simp only [RV])⟩
      rcases hs with hs | hs
      · exact .inl (small_of hs)
      · exact .inr (small_of hs)
    · cases ef
  · split at ef
    · rename_i hs
      cases ef
      simp only [Bool.and_eq_true, decide_eq_true_eq] at hs
      obtain ⟨a, xs, rfl, h1, r1⟩ := rr_tup rp
      refine .inr ⟨a, _, xs, rfl, rr_int rq, h1, fun e => hs.1 ?_, hs.2.1, hs.2.2.1, by rw [← r1.length]; exact hs.2.2.2, fun p hp => newT A k (RVs.flatten _ r1) hp⟩
      subst e
      exact List.length_eq_zero_iff.mp (r1.length)
    · cases ef
  · cases ef
theorem o_fdiv : Op2 Γ N sc (binaryOp .FloorDiv) O.fdiv := fun n c fa G X g => by
  refine ⟨_, op_fdiv, ?_⟩
  intro ρ st H p q v x y Q A rp rq ef k
  unfold O.fdiv at ef
  split at ef
  · split at ef
    · rename_i hs
      cases ef
      simp only [Bool.and_eq_true, decide_eq_true_eq] at hs
      exact ⟨_, _, rr_int rp, rr_int rq, hs, now A k (by simp only [RV])⟩
    · cases ef
  · cases ef
theorem o_mod : Op2 Γ N sc (binaryOp .Mod) O.mod := fun n c fa G X g => by
  refine ⟨_, op_mod, ?_⟩
  intro ρ st H p q v x y Q A rp rq ef k
  unfold O.mod at ef
  split at ef
  · split at ef
    · rename_i hs
      cases ef
      simp only [decide_eq_true_eq] at hs
      exact ⟨_, _, rr_int rp, rr_int rq, hs, now A k (by simp only [RV])⟩
    · cases ef
  · cases ef
theorem o_pow : Op2 Γ N sc (binaryOp .Pow) O.pow := fun n c fa G X g => by
  refine ⟨_, op_pow, ?_⟩
  intro ρ st H p q v x y Q A rp rq ef k
  unfold O.pow at ef
  split at ef
  · split at ef
    · rename_i i j hs
      cases ef
      simp only [Bool.and_eq_true, decide_eq_true_eq] at hs
      refine ⟨_, _, rr_int rp, rr_int rq, ⟨hs.1, by omega, ?_⟩, now A k (by simp only [RV])⟩
      have := small_of hs.2.2
      have e : (2 : Nat) ^ 64 = 18446744073709551616 := by decide
      have e2 : (2 : Int) ^ 64 = 18446744073709551616 := by decide
      rw [e2] at this
      rw [e]
      omega
    · cases ef
  · cases ef
theorem o_neg : Op1 Γ N sc (unaryOp .USub) O.neg := fun n c fa G X g => by
  refine ⟨_, un_neg, ?_⟩
  intro ρ st H p v x Q A rp ef k
  unfold O.neg at ef
  split at ef
  · cases ef
    exact ⟨_, rr_int rp, now A k (by simp only [RV])⟩
  · cases ef
theorem o_gt : Op2 Γ N sc (compareOp .Gt) O.gt := fun n c fa G X g => by
  refine ⟨_, op_gt, ?_⟩
  intro ρ st H p q v x y Q A rp rq ef k
  unfold O.gt at ef
  split at ef
  · cases ef
    exact ⟨_, _, rr_int rp, rr_int rq, now A k (by simp only [RV])⟩
  · cases ef
theorem o_isB : Op2 Γ N sc (compareOp .Is) O.isB := fun n c fa G X g => by
  refine ⟨_, op_is_bl, ?_⟩
  intro ρ st H p q v x y Q A rp rq ef k
  unfold O.isB at ef
  split at ef
  · rename_i a b
    cases ef
    refine ⟨_, _, rr_bl rp, rr_bl rq, now A k ?_⟩
    simp only [RV]
    cases a <;> cases b <;> rfl
  · cases ef
theorem rr_not_non {F : Addr → Prop} {ρ : List Addr} {H : Hp} {p : PV} (hp : p ≠ .non) {u : V} (h : RR κ F ρ H p u) : u ≠ .non := by
  intro e
  subst e
  cases p with
  | non => exact hp rfl
  | bl b => cases rr_bl h
  | int b => cases rr_int h
  | str b => cases rr_str h
  | tup b => obtain ⟨_, _, e, _⟩ := rr_tup h; cases e
  | lst b => obtain ⟨_, _, e, _⟩ := rr_lst h; cases e
  | dic t b => cases t <;> (obtain ⟨_, _, e, _⟩ := h; cases e)
  | ref b => simp only [RR, RV] at h; obtain ⟨_, e, _⟩ := h; cases e
  | scr b => simp only [RR, RV] at h; obtain ⟨_, e, _⟩ := h; cases e
theorem o_isN : Op2 Γ N sc (compareOp .Is) O.isN := fun n c fa G X g => by
  refine ⟨_, op_isN, ?_⟩
  intro ρ st H p q v x y Q A rp rq ef k
  unfold O.isN at ef
  split at ef
  · cases ef
    rw [rr_non rp, rr_non rq]
    exact ⟨rfl, now A k (by simp only [RV]; rfl)⟩
  · rename_i h
    cases ef
    rw [rr_non rq]
    refine ⟨rfl, now A k ?_⟩
    have := rr_not_non (fun e => h e) rp
    simp only [RV]
    rw [decide_eq_false this]
  · cases ef
theorem o_isNot : Op2 Γ N sc (compareOp .IsNot) O.isNot := fun n c fa G X g => by
  refine ⟨_, op_notN, ?_⟩
  intro ρ st H p q v x y Q A rp rq ef k
  unfold O.isNot at ef
  split at ef
  · rename_i b eb
    cases ef
    unfold O.isN at eb
    split at eb
    · cases eb
      rw [rr_non rp, rr_non rq]
      exact ⟨rfl, now A k (by simp only [RV]; rfl)⟩
    · rename_i h
      cases eb
      rw [rr_non rq]
      refine ⟨rfl, now A k ?_⟩
      have := rr_not_non (fun e => h e) rp
      simp only [RV]
      rw [decide_eq_false this]
    · cases eb
  · cases ef
end
end Dn

/-! == , !=, in, not in of data. -/
namespace Dn
open PySem L2
mutual
def toPD : PV → PyData
  | .non => .none
  | .bl b => .bool b
  | .int i => .int i
  | .str x => .str x
  | .tup xs => .tuple (toPDs xs)
  | .lst xs => .list (toPDs xs)
  | .dic _ _ => .none
  | .ref _ => .none
  | .scr _ => .none
def toPDs : List PV → List PyData
  | [] => []
  | x :: xs => toPD x :: toPDs xs
end
theorem signs_ok : ∀ (l : List Nat), signsOk l = true → l.all (· < 0x110000) = true
  | [], _ => rfl
  | c :: cs, h => by
    simp only [signsOk, Bool.and_eq_true] at h
    rw [List.all_cons, Bool.and_eq_true]
    refine ⟨?_, signs_ok cs h.2⟩
    have := h.1
    simp only [Nat.blt_eq] at this
    simpa using this
theorem strOk_of {x : Str} (h : signsOk x.cps.toList = true) : PyData.strOk x = true := by
  unfold PyData.strOk
  rw [← Array.all_toList]
  exact signs_ok _ h
mutual
theorem eqv_pd : ∀ (n m : Nat) (x y : PV), flat n x = true → flat m y = true → eqv x y = PyData.eqv (toPD x) (toPD y)
  | n, m, .non, y, h, g => by cases y <;> simp [eqv, toPD, PyData.eqv, flat] at g ⊢
  | n, m, .bl a, y, h, g => by cases y <;> simp [eqv, toPD, PyData.eqv, flat] at g ⊢ <;> (cases a <;> simp [Bool.beq_eq_decide_eq])
  | n, m, .int i, y, h, g => by cases y <;> simp [eqv, toPD, PyData.eqv, flat, Bool.beq_eq_decide_eq] at g ⊢
  | n, m, .str a, y, h, g => by
    cases y with
    | str b =>
      simp only [eqv, toPD, PyData.eqv]
      rw [Bool.eq_iff_iff, sEq_iff, beq_iff_eq]
    | _ => simp [eqv, toPD, PyData.eqv, flat] at g ⊢
  | n, m, .tup xs, y, h, g => by
    cases n with
    | zero => simp [flat] at h
    | succ n =>
      simp only [flat] at h
      cases y with
      | tup ys =>
        cases m with
        | zero => simp [flat] at g
        | succ m =>
          simp only [flat] at g
          simp only [eqv, toPD, PyData.eqv]
          exact eqvL_pd n m xs ys h g
      | _ => simp [eqv, toPD, PyData.eqv, flat] at g ⊢
  | n, m, .lst xs, y, h, g => by
    cases n with
    | zero => simp [flat] at h
    | succ n =>
      simp only [flat] at h
      cases y with
      | lst ys =>
        cases m with
        | zero => simp [flat] at g
        | succ m =>
          simp only [flat] at g
          simp only [eqv, toPD, PyData.eqv]
          exact eqvL_pd n m xs ys h g
      | _ => simp [eqv, toPD, PyData.eqv, flat] at g ⊢
  | n, m, .dic t kvs, y, h, g => by simp [flat] at h
  | n, m, .ref k, y, h, g => by simp [flat] at h
  | n, m, .scr k, y, h, g => by simp [flat] at h
theorem eqvL_pd : ∀ (n m : Nat) (x y : List PV), flatL n x = true → flatL m y = true → eqvL x y = PyData.eqvAll (toPDs x) (toPDs y)
  | n, m, [], ys, h, g => by cases ys <;> simp [eqvL, toPDs, PyData.eqvAll]
  | n, m, x :: xs, ys, h, g => by
    cases ys with
    | nil => simp [eqvL, toPDs, PyData.eqvAll]
    | cons y ys =>
      simp only [flatL, Bool.and_eq_true] at h g
      simp only [eqvL, toPDs, PyData.eqvAll]
      rw [eqv_pd n m x y h.1 g.1, eqvL_pd n m xs ys h.2 g.2]
end
mutual
theorem shaped_pd : ∀ (n : Nat) (x : PV), flat n x = true → (toPD x).canLay0 = true ∧ (toPD x).depth ≤ n + 1
  | n, .non, _ => by simp [toPD, PyData.canLay0, PyData.depth]
  | n, .bl a, _ => by simp [toPD, PyData.canLay0, PyData.depth]
  | n, .int a, _ => by simp [toPD, PyData.canLay0, PyData.depth]
  | n, .str a, h => by
    simp only [flat] at h
    simp [toPD, PyData.canLay0, PyData.depth, strOk_of h]
  | n, .tup xs, h => by
    cases n with
    | zero => simp [flat] at h
    | succ n =>
      simp only [flat] at h
      have := shapedL_pd n xs h
      simp only [toPD, PyData.canLay0, PyData.depth]
      exact ⟨this.1, by omega⟩
  | n, .lst xs, h => by
    cases n with
    | zero => simp [flat] at h
    | succ n =>
      simp only [flat] at h
      have := shapedL_pd n xs h
      simp only [toPD, PyData.canLay0, PyData.depth]
      exact ⟨this.1, by omega⟩
  | n, .dic t kvs, h => by simp [flat] at h
  | n, .ref k, h => by simp [flat] at h
  | n, .scr k, h => by simp [flat] at h
theorem shapedL_pd : ∀ (n : Nat) (x : List PV), flatL n x = true → PyData.canLayAll0 (toPDs x) = true ∧ PyData.depthAll (toPDs x) ≤ n + 1
  | n, [], _ => by simp [toPDs, PyData.canLayAll0, PyData.depthAll]
  | n, x :: xs, h => by
    simp only [flatL, Bool.and_eq_true] at h
    have h1 := shaped_pd n x h.1
    have h2 := shapedL_pd n xs h.2
    simp only [toPDs, PyData.canLayAll0, PyData.depthAll, Bool.and_eq_true]
    exact ⟨⟨h1.1, h2.1⟩, by omega⟩
end
theorem shaped60 {x : PV} (h : flat 60 x = true) : SeqAt.shaped (toPD x) = true := by
  have := shaped_pd 60 x h
  unfold SeqAt.shaped
  rw [this.1, Bool.true_and, decide_eq_true_eq]
  omega
section
variable {Γ : Pg} {n : Nat} {c fa : Nat → Addr} {G : Fr} {N : List Str} {sc : Scope} {X : Cx} {κ : Cn}
mutual
theorem dp_of {F : Addr → Prop} {ρ : List Addr} {H : Hp} : ∀ (n : Nat) (p : PV) (v : V), flat n p = true → RV κ F ρ H p v → Dp κ.K H v (toPD p)
  | n, .non, v, h, r => by simp only [RV] at r; subst r; exact .non
  | n, .bl b, v, h, r => by simp only [RV] at r; subst r; exact .bl b
  | n, .int b, v, h, r => by simp only [RV] at r; subst r; exact .int b
  | n, .str b, v, h, r => by simp only [RV] at r; subst r; exact .str b
  | n, .tup ps, v, h, r => by
    cases n with
    | zero => simp [flat] at h
    | succ n =>
      simp only [flat] at h
      simp only [RV] at r
      obtain ⟨a, xs, rfl, h1, h2⟩ := r
      simp only [toPD]
      exact .tup h1 (dps_of n ps xs h h2)
  | n, .lst ps, v, h, r => by
    cases n with
    | zero => simp [flat] at h
    | succ n =>
      simp only [flat] at h
      simp only [RV] at r
      obtain ⟨a, xs, rfl, h1, _, h2⟩ := r
      simp only [toPD]
      exact .lst (SqL.of h1) (dps_of n ps xs h h2)
  | n, .dic t kvs, v, h, r => by simp [flat] at h
  | n, .ref k, v, h, r => by simp [flat] at h
  | n, .scr k, v, h, r => by simp [flat] at h
theorem dps_of {F : Addr → Prop} {ρ : List Addr} {H : Hp} : ∀ (n : Nat) (p : List PV) (v : List V), flatL n p = true → RVs κ F ρ H p v → DpAll κ.K H v (toPDs p)
  | n, [], v, h, r => by simp only [RVs] at r; subst r; exact .nil
  | n, p :: ps, v, h, r => by
    simp only [flatL, Bool.and_eq_true] at h
    simp only [RVs] at r
    obtain ⟨w, t, rfl, h1, h2⟩ := r
    exact .cons (dp_of n p w h.1 h1) (dps_of n ps t h.2 h2)
end
theorem dp_rr {F : Addr → Prop} {ρ : List Addr} {H : Hp} {n : Nat} {p : PV} {v : V} (h : flat n p = true) (r : RR κ F ρ H p v) : Dp κ.K H v (toPD p) := by
  cases p with
  | lst ps =>
    cases n with
    | zero => simp [flat] at h
    | succ n =>
      simp only [flat] at h
      obtain ⟨a, xs, rfl, h1, h2⟩ := r
      simp only [toPD]
      exact .lst (SqL.of h1) (dps_of n ps xs h h2)
  | dic t kvs => simp [flat] at h
  | _ => exact dp_of (F := F) (ρ := ρ) n _ v h r
theorem o_eq : Op2 Γ N sc (compareOp .Eq) O.eq := fun n c fa G X g => by
  refine ⟨_, op_eqD g.u64, ?_⟩
  intro ρ st H p q v x y Q A rp rq ef k
  unfold O.eq eqP at ef
  split at ef
  · rename_i hf
    rw [Bool.and_eq_true] at hf
    cases ef
    refine ⟨_, _, dp_rr hf.1 rp, dp_rr hf.2 rq, shaped60 hf.1, shaped60 hf.2, now A k ?_⟩
    simp only [RV]
    rw [eqv_pd 60 60 p q hf.1 hf.2]
  · cases ef
theorem o_ne : Op2 Γ N sc (compareOp .NotEq) O.ne := fun n c fa G X g => by
  refine ⟨_, op_neD g.u64, ?_⟩
  intro ρ st H p q v x y Q A rp rq ef k
  unfold O.ne eqP at ef
  split at ef
  · rename_i hf
    rw [Bool.and_eq_true] at hf
    cases ef
    refine ⟨_, _, dp_rr hf.1 rp, dp_rr hf.2 rq, shaped60 hf.1, shaped60 hf.2, now A k ?_⟩
    simp only [RV]
    rw [eqv_pd 60 60 p q hf.1 hf.2]
  · cases ef
theorem any_pd {x : PV} (hx : flat 59 x = true) : ∀ (xs : List PV), flatL 59 xs = true → (xs.any fun y => eqv y x) = (toPDs xs).any fun y => PyData.eqv y (toPD x)
  | [], _ => rfl
  | y :: ys, h => by
    simp only [flatL, Bool.and_eq_true] at h
    simp only [List.any_cons, toPDs]
    rw [eqv_pd 59 59 y x h.1 hx, any_pd hx ys h.2]
/-- x in a tuple of data -/
def rInT (K : PySem.W.Frag) (neg : Bool) : R2 := fun x y H Q => ∃ d ds, Dp K H x d ∧ Dp K H y (.tuple ds) ∧ SeqAt.shaped d = true ∧ SeqAt.shaped (.tuple ds) = true ∧ Q (.bl (if neg then !(ds.any fun z => PyData.eqv z d) else ds.any fun z => PyData.eqv z d)) H
theorem room_inT {X : Cx} {d e : PyData} (hd : SeqAt.shaped d = true) (hu : X.A.units + 65 < cLine) (ds : List PyData) : X.A.units + 1 + min (PyData.depthAll ds) d.depth < cLine := by
  have h1 := SeqAt.depth_of_shaped hd
  have h2 : min (PyData.depthAll ds) d.depth ≤ d.depth := Nat.min_le_right _ _
  omega
theorem op_inT (hu : X.A.units + 65 < cLine) : OpR X (compareOp .In) (rInT X.K false) := by
  intro pins s σ H x y v u Q I rx ry h
  obtain ⟨d, ds, hd, he, sd, se, q⟩ := h
  obtain ⟨as, r1⟩ := Dp.reads I d x v hd rx
  obtain ⟨bs, r2⟩ := Dp.reads I (.tuple ds) y u he ry
  exact SeqAt.in_tuple_reads r2 r1 (SeqAt.canLay_of_shaped se) (SeqAt.canLay_of_shaped sd) (room_inT (e := d) sd hu ds) ⟨.bl _, H, I, rfl, q⟩
theorem op_notInT (hu : X.A.units + 65 < cLine) : OpR X (compareOp .NotIn) (rInT X.K true) := by
  intro pins s σ H x y v u Q I rx ry h
  obtain ⟨d, ds, hd, he, sd, se, q⟩ := h
  obtain ⟨as, r1⟩ := Dp.reads I d x v hd rx
  obtain ⟨bs, r2⟩ := Dp.reads I (.tuple ds) y u he ry
  exact SeqAt.notIn_tuple_reads r2 r1 (SeqAt.canLay_of_shaped se) (SeqAt.canLay_of_shaped sd) (room_inT (e := d) sd hu ds) ⟨.bl _, H, I, rfl, q⟩
theorem shapedS {x : PV} (h : flat 59 x = true) : SeqAt.shaped (toPD x) = true := by
  have := shaped_pd 59 x h
  unfold SeqAt.shaped
  rw [this.1, Bool.true_and, decide_eq_true_eq]
  omega
end
end Dn

/-! Dicts. -/
namespace Dn
open PySem L2
/-! ### keys that are ints, texts -/
theorem eqv_key {a k : PV} {ka kk : Key} (h : toKey a = some ka) (g : toKey k = some kk) : eqv a k = decide (ka = kk) := by
  cases a <;> cases k <;> simp only [toKey, Option.some.injEq, reduceCtorEq] at h g
  all_goals subst h; subst g
  · simp only [eqv]; exact (key_ll _ _).trans (by rw [Bool.beq_eq_decide_eq]) |>.symm
  · simp only [eqv]; exact (key_lr _ _).symm
  · simp only [eqv]; exact (key_rl _ _).symm
  · simp only [eqv]
    rw [key_rr, Bool.eq_iff_iff, sEq_iff, decide_eq_true_eq]
theorem keyT_false {k : PV} (h : keyT false k = true) : ∃ kk, toKey k = some kk := by
  cases k <;> simp [keyT, toKey] at h ⊢
section
variable {κ : Cn} {F : Addr → Prop} {ρ : List Addr} {H : Hp}
theorem rv_key {k : PV} {kk : Key} {v : V} (h : toKey k = some kk) (r : RV κ F ρ H k v) : v = kV kk := by
  cases k <;> simp only [toKey, Option.some.injEq, reduceCtorEq] at h
  all_goals subst h; simp only [RV] at r; exact r
theorem RKs.find : ∀ {kvs : List (PV × PV)} {es : List (Key × V)} {k : PV} {kk : Key}, RKs κ F ρ H kvs es → toKey k = some kk →
    (find k kvs = none ∧ valV es kk = none) ∨ ∃ p w, find k kvs = some p ∧ valV es kk = some w ∧ RV κ F ρ H p w
  | [], es, k, kk, h, g => by
    simp only [RKs] at h
    subst h
    exact .inl ⟨rfl, rfl⟩
  | (a, p) :: r, es, k, kk, h, g => by
    simp only [RKs] at h
    obtain ⟨ka, w, t, rfl, h0, h1, h2⟩ := h
    simp only [Dn.find]
    rw [eqv_key h0 g]
    by_cases e : ka = kk
    · rw [decide_eq_true e, if_pos rfl]
      exact .inr ⟨p, w, rfl, valV_pos (p := (ka, w)) e, h1⟩
    · rw [decide_eq_false e, if_neg (by decide)]
      have : valV ((ka, w) :: t) kk = valV t kk := by simp [valV, List.find?_cons, e]
      rw [this]
      exact RKs.find h2 g
theorem RKs.any : ∀ {kvs : List (PV × PV)} {es : List (Key × V)} {k : PV} {kk : Key}, RKs κ F ρ H kvs es → toKey k = some kk → (kvs.any fun p => eqv p.1 k) = (es.any fun kv => decide (kv.1 = kk))
  | [], es, k, kk, h, g => by
    simp only [RKs] at h
    subst h
    rfl
  | (a, p) :: r, es, k, kk, h, g => by
    simp only [RKs] at h
    obtain ⟨ka, w, t, rfl, h0, h1, h2⟩ := h
    simp only [List.any_cons]
    rw [eqv_key h0 g, RKs.any h2 g]
theorem RKs.mapPut {v : PV} {w : V} (r : RV κ F ρ H v w) : ∀ {kvs : List (PV × PV)} {es : List (Key × V)} {k : PV} {kk : Key}, RKs κ F ρ H kvs es → toKey k = some kk →
    RKs κ F ρ H (kvs.map (fun p => if eqv p.1 k then (p.1, v) else p)) (es.map (fun kv => if kv.1 = kk then (kv.1, w) else kv))
  | [], es, k, kk, h, g => by
    simp only [RKs] at h
    subst h
    simp [RKs]
  | (a, p) :: t, es, k, kk, h, g => by
    simp only [RKs] at h
    obtain ⟨ka, z, t', rfl, h0, h1, h2⟩ := h
    simp only [List.map_cons]
    rw [eqv_key h0 g]
    by_cases e : ka = kk
    · rw [decide_eq_true e, if_pos rfl, if_pos e]
      simp only [RKs]
      exact ⟨ka, w, _, rfl, h0, r, RKs.mapPut r h2 g⟩
    · rw [decide_eq_false e, if_neg (by decide), if_neg e]
      simp only [RKs]
      exact ⟨ka, z, _, rfl, h0, h1, RKs.mapPut r h2 g⟩
theorem RKs.snoc {v : PV} {w : V} (r : RV κ F ρ H v w) : ∀ {kvs : List (PV × PV)} {es : List (Key × V)} {k : PV} {kk : Key}, RKs κ F ρ H kvs es → toKey k = some kk → RKs κ F ρ H (kvs ++ [(k, v)]) (es ++ [(kk, w)])
  | [], es, k, kk, h, g => by
    simp only [RKs] at h
    subst h
    simp only [List.nil_append, RKs]
    exact ⟨kk, w, [], rfl, g, r, rfl⟩
  | (a, p) :: t, es, k, kk, h, g => by
    simp only [RKs] at h
    obtain ⟨ka, z, t', rfl, h0, h1, h2⟩ := h
    simp only [List.cons_append, RKs]
    exact ⟨ka, z, _, rfl, h0, h1, RKs.snoc r h2 g⟩
theorem RKs.put {kvs : List (PV × PV)} {es : List (Key × V)} {k v : PV} {kk : Key} {w : V} (h : RKs κ F ρ H kvs es) (g : toKey k = some kk) (r : RV κ F ρ H v w) : RKs κ F ρ H (put k v kvs) (putK es kk w) := by
  unfold Dn.put putK
  rw [RKs.any h g]
  by_cases e : (es.any fun kv => decide (kv.1 = kk)) = true
  · rw [if_pos e, if_pos e]
    exact RKs.mapPut r h g
  · rw [if_neg e, if_neg e]
    exact RKs.snoc r h g
theorem RKs.length : ∀ {kvs : List (PV × PV)} {es : List (Key × V)}, RKs κ F ρ H kvs es → kvs.length = es.length
  | [], es, h => by
    simp only [RKs] at h
    subst h
    rfl
  | (a, p) :: t, es, h => by
    simp only [RKs] at h
    obtain ⟨ka, z, t', rfl, h0, h1, h2⟩ := h
    simp [RKs.length h2]
theorem RTs.length : ∀ {kvs : List (PV × PV)} {es : List (NestedKey × Addr × V)}, RTs κ F ρ H kvs es → kvs.length = es.length
  | [], es, h => by
    simp only [RTs] at h
    subst h
    rfl
  | (a, p) :: t, es, h => by
    simp only [RTs] at h
    obtain ⟨ka, b, z, t', rfl, h0, h1, h2, h3⟩ := h
    simp [RTs.length h3]
end

/-! ### keys that are tuples -/
mutual
theorem keyOk_nk : ∀ (n : Nat) (k : PV), keyOk n k = true → ∃ nk, toNK k = some nk ∧ nk.depth ≤ n
  | n, .int i, _ => ⟨.num i, by simp [toNK], by simp [NestedKey.depth]⟩
  | n, .str x, _ => ⟨.text x, by simp [toNK], by simp [NestedKey.depth]⟩
  | n, .tup xs, h => by
    cases n with
    | zero => simp [keyOk] at h
    | succ n =>
      simp only [keyOk] at h
      obtain ⟨nks, e, d⟩ := keyOk_nks n xs h
      exact ⟨.tup nks, by simp [toNK, e], by simp only [NestedKey.depth]; omega⟩
  | n, .non, h => by simp [keyOk] at h
  | n, .bl b, h => by simp [keyOk] at h
  | n, .lst b, h => by simp [keyOk] at h
  | n, .dic t b, h => by simp [keyOk] at h
  | n, .ref b, h => by simp [keyOk] at h
  | n, .scr b, h => by simp [keyOk] at h
theorem keyOk_nks : ∀ (n : Nat) (k : List PV), keyOkL n k = true → ∃ nk, toNKs k = some nk ∧ NestedKey.depthAll nk ≤ n
  | n, [], _ => ⟨[], by simp [toNKs], by simp [NestedKey.depthAll]⟩
  | n, x :: xs, h => by
    simp only [keyOkL, Bool.and_eq_true] at h
    obtain ⟨a, e1, d1⟩ := keyOk_nk n x h.1
    obtain ⟨b, e2, d2⟩ := keyOk_nks n xs h.2
    exact ⟨a :: b, by simp [toNKs, e1, e2], by simp only [NestedKey.depthAll]; omega⟩
end
mutual
theorem eqv_nk : ∀ {a k : PV} {ka kk : NestedKey}, toNK a = some ka → toNK k = some kk → eqv a k = decide (ka = kk)
  | .int i, k, ka, kk, h, g => by
    simp only [toNK, Option.some.injEq] at h
    subst h
    cases k <;> simp only [toNK, Option.some.injEq, reduceCtorEq] at g
    · subst g; simp [eqv]
    · subst g; simp [eqv]
    · obtain ⟨z, _, rfl⟩ := Option.map_eq_some_iff.mp g
      simp [eqv]
  | .str x, k, ka, kk, h, g => by
    simp only [toNK, Option.some.injEq] at h
    subst h
    cases k <;> simp only [toNK, Option.some.injEq, reduceCtorEq] at g
    · subst g; simp [eqv]
    · subst g
      simp only [eqv, NestedKey.text.injEq]
      rw [Bool.eq_iff_iff, sEq_iff, decide_eq_true_eq]
    · obtain ⟨z, _, rfl⟩ := Option.map_eq_some_iff.mp g
      simp [eqv]
  | .tup xs, k, ka, kk, h, g => by
    simp only [toNK] at h
    obtain ⟨z, e, rfl⟩ := Option.map_eq_some_iff.mp h
    cases k <;> simp only [toNK, Option.some.injEq, reduceCtorEq] at g
    · subst g; simp [eqv]
    · subst g; simp [eqv]
    · obtain ⟨z', e', rfl⟩ := Option.map_eq_some_iff.mp g
      simp only [eqv, NestedKey.tup.injEq]
      exact eqvL_nk e e'
  | .non, k, ka, kk, h, g => by simp [toNK] at h
  | .bl b, k, ka, kk, h, g => by simp [toNK] at h
  | .lst b, k, ka, kk, h, g => by simp [toNK] at h
  | .dic t b, k, ka, kk, h, g => by simp [toNK] at h
  | .ref b, k, ka, kk, h, g => by simp [toNK] at h
  | .scr b, k, ka, kk, h, g => by simp [toNK] at h
theorem eqvL_nk : ∀ {a k : List PV} {ka kk : List NestedKey}, toNKs a = some ka → toNKs k = some kk → eqvL a k = decide (ka = kk)
  | [], k, ka, kk, h, g => by
    simp only [toNKs, Option.some.injEq] at h
    subst h
    cases k with
    | nil => simp only [toNKs, Option.some.injEq] at g; subst g; simp [eqvL]
    | cons y ys =>
      simp only [toNKs] at g
      obtain ⟨q, _, g⟩ := Option.bind_eq_some_iff.mp g
      obtain ⟨z, _, rfl⟩ := Option.map_eq_some_iff.mp g
      simp [eqvL]
  | x :: xs, k, ka, kk, h, g => by
    simp only [toNKs] at h
    obtain ⟨q, e1, h⟩ := Option.bind_eq_some_iff.mp h
    obtain ⟨z, e2, rfl⟩ := Option.map_eq_some_iff.mp h
    cases k with
    | nil => simp only [toNKs, Option.some.injEq] at g; subst g; simp [eqvL]
    | cons y ys =>
      simp only [toNKs] at g
      obtain ⟨q', e1', g⟩ := Option.bind_eq_some_iff.mp g
      obtain ⟨z', e2', rfl⟩ := Option.map_eq_some_iff.mp g
      simp only [eqvL, List.cons.injEq]
      rw [eqv_nk e1 e1', eqvL_nk e2 e2', Bool.decide_and]
end
abbrev E3 := NestedKey × Addr × V
section
variable {κ : Cn} {F : Addr → Prop} {ρ : List Addr} {H : Hp}
def valT (es : List E3) (k : NestedKey) : Option V := (es.find? fun x => decide (x.1 = k)).map (·.2.2)
def putT (es : List E3) (k : NestedKey) (a : Addr) (v : V) : List E3 := if (es.any fun x => decide (x.1 = k)) = true then es.map (fun x => if x.1 = k then (x.1, x.2.1, v) else x) else es ++ [(k, a, v)]
theorem RTs.find : ∀ {kvs : List (PV × PV)} {es : List E3} {k : PV} {kk : NestedKey}, RTs κ F ρ H kvs es → toNK k = some kk →
    (find k kvs = none ∧ valT es kk = none) ∨ ∃ p w, find k kvs = some p ∧ valT es kk = some w ∧ RV κ F ρ H p w
  | [], es, k, kk, h, g => by
    simp only [RTs] at h
    subst h
    exact .inl ⟨rfl, rfl⟩
  | (a, p) :: r, es, k, kk, h, g => by
    simp only [RTs] at h
    obtain ⟨ka, b, w, t, rfl, h0, hk, h1, h2⟩ := h
    simp only [Dn.find]
    rw [eqv_nk h0 g]
    by_cases e : ka = kk
    · rw [decide_eq_true e, if_pos rfl]
      exact .inr ⟨p, w, rfl, by simp [valT, List.find?_cons, e], h1⟩
    · rw [decide_eq_false e, if_neg (by decide)]
      have : valT ((ka, b, w) :: t) kk = valT t kk := by simp [valT, List.find?_cons, e]
      rw [this]
      exact RTs.find h2 g
theorem RTs.any : ∀ {kvs : List (PV × PV)} {es : List E3} {k : PV} {kk : NestedKey}, RTs κ F ρ H kvs es → toNK k = some kk → (kvs.any fun p => eqv p.1 k) = (es.any fun x => decide (x.1 = kk))
  | [], es, k, kk, h, g => by
    simp only [RTs] at h
    subst h
    rfl
  | (a, p) :: r, es, k, kk, h, g => by
    simp only [RTs] at h
    obtain ⟨ka, b, w, t, rfl, h0, hk, h1, h2⟩ := h
    simp only [List.any_cons]
    rw [eqv_nk h0 g, RTs.any h2 g]
theorem RTs.mapPut {v : PV} {w : V} (r : RV κ F ρ H v w) : ∀ {kvs : List (PV × PV)} {es : List E3} {k : PV} {kk : NestedKey}, RTs κ F ρ H kvs es → toNK k = some kk →
    RTs κ F ρ H (kvs.map (fun p => if eqv p.1 k then (p.1, v) else p)) (es.map (fun x => if x.1 = kk then (x.1, x.2.1, w) else x))
  | [], es, k, kk, h, g => by
    simp only [RTs] at h
    subst h
    simp [RTs]
  | (a, p) :: t, es, k, kk, h, g => by
    simp only [RTs] at h
    obtain ⟨ka, b, z, t', rfl, h0, hk, h1, h2⟩ := h
    simp only [List.map_cons]
    rw [eqv_nk h0 g]
    by_cases e : ka = kk
    · rw [decide_eq_true e, if_pos rfl, if_pos e]
      simp only [RTs]
      exact ⟨ka, b, w, _, rfl, h0, hk, r, RTs.mapPut r h2 g⟩
    · rw [decide_eq_false e, if_neg (by decide), if_neg e]
      simp only [RTs]
      exact ⟨ka, b, z, _, rfl, h0, hk, h1, RTs.mapPut r h2 g⟩
theorem RTs.snoc {v : PV} {w : V} (r : RV κ F ρ H v w) {k : PV} {kk : NestedKey} {ak : Addr} (g : toNK k = some kk) (rk : RV κ F ρ H k (.ref ak)) : ∀ {kvs : List (PV × PV)} {es : List E3}, RTs κ F ρ H kvs es → RTs κ F ρ H (kvs ++ [(k, v)]) (es ++ [(kk, ak, w)])
  | [], es, h => by
    simp only [RTs] at h
    subst h
    simp only [List.nil_append, RTs]
    exact ⟨kk, ak, w, [], rfl, g, rk, r, rfl⟩
  | (a, p) :: t, es, h => by
    simp only [RTs] at h
    obtain ⟨ka, b, z, t', rfl, h0, hk, h1, h2⟩ := h
    simp only [List.cons_append, RTs]
    exact ⟨ka, b, z, _, rfl, h0, hk, h1, RTs.snoc r g rk h2⟩
theorem RTs.put {kvs : List (PV × PV)} {es : List E3} {k v : PV} {kk : NestedKey} {w : V} {ak : Addr} (h : RTs κ F ρ H kvs es) (g : toNK k = some kk) (rk : RV κ F ρ H k (.ref ak)) (r : RV κ F ρ H v w) : RTs κ F ρ H (put k v kvs) (putT es kk ak w) := by
  unfold Dn.put putT
  rw [RTs.any h g]
  by_cases e : (es.any fun x => decide (x.1 = kk)) = true
  · rw [if_pos e, if_pos e]
    exact RTs.mapPut r h g
  · rw [if_neg e, if_neg e]
    exact RTs.snoc r g rk h
end

/-! ### .. as the heap has them -/
section
variable {X : Cx} {c : Nat → Addr} {pins : List (Addr × Obj)} {σ : St} {H : Hp} {s : Shared} {F : Addr → Prop} {ρ : List Addr}
mutual
theorem nk_is (I : Inv X pins σ H s) : ∀ {k : PV} {nk : NestedKey} {v : V} {u : Value}, toNK k = some nk → RV (cnOf X c) F ρ H k v → RelV v u → NestedIs s.heap nk u
  | .int i, nk, v, u, h, r, ru => by
    simp only [toNK, Option.some.injEq] at h
    subst h
    simp only [RV] at r
    subst r
    obtain ⟨t, rfl⟩ := ru
    exact .int i t
  | .str x, nk, v, u, h, r, ru => by
    simp only [toNK, Option.some.injEq] at h
    subst h
    simp only [RV] at r
    subst r
    obtain ⟨t, rfl⟩ := ru
    exact .text x t
  | .tup xs, nk, v, u, h, r, ru => by
    simp only [toNK] at h
    obtain ⟨z, e, rfl⟩ := Option.map_eq_some_iff.mp h
    simp only [RV] at r
    obtain ⟨a, vs, rfl, h1, h2⟩ := r
    cases ru
    obtain ⟨its, rv, ⟨o, ho, hc, m, hd⟩, _⟩ := I.tuple h1
    exact .tup ho hc hd (nk_all I e h2 rv)
  | .non, nk, v, u, h, r, ru => by simp [toNK] at h
  | .bl b, nk, v, u, h, r, ru => by simp [toNK] at h
  | .lst b, nk, v, u, h, r, ru => by simp [toNK] at h
  | .dic t b, nk, v, u, h, r, ru => by simp [toNK] at h
  | .ref b, nk, v, u, h, r, ru => by simp [toNK] at h
  | .scr b, nk, v, u, h, r, ru => by simp [toNK] at h
theorem nk_all (I : Inv X pins σ H s) : ∀ {k : List PV} {nk : List NestedKey} {v : List V} {u : List Value}, toNKs k = some nk → RVs (cnOf X c) F ρ H k v → Vals v u → NestedAll s.heap nk u
  | [], nk, v, u, h, r, ru => by
    simp only [toNKs, Option.some.injEq] at h
    subst h
    simp only [RVs] at r
    subst r
    cases ru
    exact .nil
  | x :: xs, nk, v, u, h, r, ru => by
    simp only [toNKs] at h
    obtain ⟨q, e1, h⟩ := Option.bind_eq_some_iff.mp h
    obtain ⟨z, e2, rfl⟩ := Option.map_eq_some_iff.mp h
    simp only [RVs] at r
    obtain ⟨w, t, rfl, h1, h2⟩ := r
    cases ru with
    | cons a b => exact .cons (nk_is I e1 h1 a) (nk_all I e2 h2 b)
end
end
end Dn

/-! The rules of dicts. -/
namespace Dn
open PySem L2
section
variable {X : Cx} {c : Nat → Addr} {pins : List (Addr × Obj)} {σ : St} {H : Hp} {s : Shared} {F : Addr → Prop} {ρ : List Addr} {A : Around} {E : Value → Shared → Prop}
/-- an entry as the heap has it -/
abbrev EV := fun (x : E3) (y : NestedKey × Addr × Value) => x.1 = y.1 ∧ x.2.1 = y.2.1 ∧ RelV x.2.2 y.2.2
theorem keys_is (I : Inv X pins σ H s) : ∀ {kvs : List (PV × PV)} {es : List E3} {ys : List (NestedKey × Addr × Value)}, RTs (cnOf X c) F ρ H kvs es → (∀ x ∈ es, x.1.depth ≤ 8) → Paired EV es ys →
    ∀ y ∈ ys, (nestedKind X.prog X.w).is s.heap y.1 y.2.1
  | [], es, ys, h, d, p => by
    simp only [RTs] at h
    subst h
    cases p
    intro y hy
    cases hy
  | (k, v) :: t, es, ys, h, d, p => by
    simp only [RTs] at h
    obtain ⟨kk, a, w, r, rfl, h0, hk, _, h2⟩ := h
    cases p with
    | cons q p =>
      intro y hy
      rcases List.mem_cons.mp hy with e | hy
      · subst e
        obtain ⟨e1, e2, _⟩ := q
        rw [← e1, ← e2]
        exact ⟨nk_is I h0 hk rfl, d _ List.mem_cons_self⟩
      · exact keys_is I h2 (fun x hx => d x (List.mem_cons_of_mem _ hx)) p y hy
theorem dT_of (I : Inv X pins σ H s) {a : Addr} {es : List E3} {kvs : List (PV × PV)} (h : H a = some (dTO (cnOf X c) a es)) (r : RTs (cnOf X c) F ρ H kvs es) :
    ∃ ys, s.heap.DictOfH (nestedKind X.prog X.w) a ys ∧ Paired EV es ys ∧ (a == sysModules) = false ∧ es.length ≤ sizeLine ∧ ∀ x ∈ es, x.1.depth ≤ 8 := by
  obtain ⟨⟨h1, h2, h3, ys, p, o, ee, ep, g1, g2, g3, g4, g5⟩, _⟩ := I.hok a _ h
  exact ⟨ys, ⟨o, ee, ep, g1, g2, g3, g4, keys_is I r h3 p, g5⟩, p, h1, h2, h3⟩
theorem at_of {k : NestedKey} : ∀ {es : List E3} {ys : List (NestedKey × Addr × Value)}, Paired EV es ys → (valT es k = none ∧ atKey ys k = none) ∨ ∃ w p, valT es k = some w ∧ atKey ys k = some p ∧ RelV w p.2
  | _, _, .nil => .inl ⟨rfl, rfl⟩
  | _, _, .cons (b := y) (a := x) ⟨e1, e2, e3⟩ p => by
    by_cases e : x.1 = k
    · refine .inr ⟨x.2.2, y.2, by simp [valT, List.find?_cons, e], by simp [atKey, List.find?_cons, ← e1, e], e3⟩
    · rename_i es ys
      have a1 : valT (x :: es) k = valT es k := by simp [valT, List.find?_cons, e]
      have a2 : atKey (y :: ys) k = atKey ys k := by simp [atKey, List.find?_cons, ← e1, e]
      rw [a1, a2]
      exact at_of p
theorem any_of {k : NestedKey} : ∀ {es : List E3} {ys : List (NestedKey × Addr × Value)}, Paired EV es ys → (es.any fun x => decide (x.1 = k)) = (atKey ys k).isSome
  | _, _, .nil => rfl
  | _, _, .cons (b := y) (a := x) ⟨e1, e2, e3⟩ p => by
    rename_i es ys
    by_cases e : x.1 = k
    · simp [atKey, List.find?_cons, ← e1, e]
    · have a2 : atKey (y :: ys) k = atKey ys k := by simp [atKey, List.find?_cons, ← e1, e]
      rw [a2, ← any_of p]
      simp [e]
theorem put_map {k : NestedKey} {w : V} {v : Value} (r : RelV w v) : ∀ {es : List E3} {ys : List (NestedKey × Addr × Value)}, Paired EV es ys →
    Paired EV (es.map (fun x => if x.1 = k then (x.1, x.2.1, w) else x)) (ys.map (putAt k v))
  | _, _, .nil => .nil
  | _, _, .cons (b := y) (a := x) ⟨e1, e2, e3⟩ p => by
    refine .cons ?_ (put_map r p)
    unfold putAt
    rw [← e1]
    by_cases e : x.1 = k
    · simp only [if_pos e]; exact ⟨rfl, e2, r⟩
    · simp only [if_neg e]; exact ⟨e1, e2, e3⟩
theorem put_snoc {k : NestedKey} {w : V} {v : Value} {a : Addr} (r : RelV w v) : ∀ {es : List E3} {ys : List (NestedKey × Addr × Value)}, Paired EV es ys → Paired EV (es ++ [(k, a, w)]) (ys ++ [(k, a, v)])
  | _, _, .nil => .cons ⟨rfl, rfl, r⟩ .nil
  | _, _, .cons q p => .cons q (put_snoc r p)
theorem put_of {k : NestedKey} {w : V} {v : Value} {a : Addr} (r : RelV w v) {es : List E3} {ys : List (NestedKey × Addr × Value)} (p : Paired EV es ys) : Paired EV (putT es k a w) (storedH ys k a v) := by
  unfold putT storedH
  rw [any_of p]
  by_cases e : (atKey ys k).isSome = true
  · rw [if_pos e, if_pos e]
    exact put_map r p
  · rw [if_neg e, if_neg e]
    exact put_snoc r p
theorem putT_deep {k : NestedKey} {w : V} {a : Addr} {es : List E3} (h : ∀ x ∈ es, x.1.depth ≤ 8) (hk : k.depth ≤ 8) : ∀ x ∈ putT es k a w, x.1.depth ≤ 8 := by
  unfold putT
  split
  · intro x hx
    obtain ⟨y, hy, rfl⟩ := List.mem_map.mp hx
    split
    · exact h y hy
    · exact h y hy
  · intro x hx
    rcases List.mem_append.mp hx with z | z
    · exact h x z
    · rw [List.mem_singleton.mp z]; exact hk
theorem putT_len {k : NestedKey} {w : V} {a : Addr} {es : List E3} : (putT es k a w).length ≤ es.length + 1 := by
  unfold putT
  split
  · rw [List.length_map]; exact Nat.le_succ _
  · rw [List.length_append]; exact Nat.le_refl _
/-- the key at hand -/
theorem key_is (I : Inv X pins σ H s) {k : PV} {v : V} {u : Value} (hk : keyT true k = true) (r : RV (cnOf X c) F ρ H k v) (ru : RelV v u) : ∃ nk b, toNK k = some nk ∧ nk.depth ≤ 8 ∧ v = .ref b ∧ u = .ref b ∧ (nestedKind X.prog X.w).is s.heap nk b := by
  cases k <;> simp only [keyT, if_true, Bool.false_eq_true] at hk
  rename_i xs
  obtain ⟨nk, e, d⟩ := keyOk_nk 8 _ hk
  simp only [RV] at r
  obtain ⟨b, vs, rfl, h1, h2⟩ := r
  cases ru
  refine ⟨nk, b, e, d, rfl, rfl, nk_is (c := c) (F := F) (ρ := ρ) I e (v := .ref b) ?_ rfl, d⟩
  simp only [RV]
  exact ⟨b, vs, rfl, h1, h2⟩
end
section
variable {Γ : Pg} {n : Nat} {c fa : Nat → Addr} {G : Fr} {N : List Str} {sc : Scope} {X : Cx} {κ : Cn} {cs : CS}
variable {a b e d : Expr} {da db dd : DE} {pos : Pos}
theorem rr_rv {F : Addr → Prop} {ρ : List Addr} {H : Hp} {k : PV} {v : V} {t : Bool} (h : keyT t k = true) (r : RR κ F ρ H k v) : RV κ F ρ H k v := by
  cases k <;> cases t <;> simp [keyT] at h <;> exact r
/-! in, not in -/
def rInDk (X : Cx) (c : Nat → Addr) (neg : Bool) : R2 := fun x y H Q => ∃ F ρ k kvs es a, keyT true k = true ∧ RV (cnOf X c) F ρ H k x ∧ y = .ref a ∧ H a = some (dTO (cnOf X c) a es) ∧ RTs (cnOf X c) F ρ H kvs es ∧ Q (.bl (if neg then !(find k kvs).isSome else (find k kvs).isSome)) H
theorem room8 {A : Around} (h : A.units + 64 < cLine) (P : Program) (w : World) : (nestedKind P w).room A.in1 := by
  show A.units + 1 + 8 < cLine
  omega
theorem op_inDk (hu : X.A.units + 64 < cLine) : OpR X (compareOp .In) (rInDk X c false) := by
  intro pins s σ H x y v u Q I rx ry h
  obtain ⟨F, ρ, k, kvs, es, a, hk, rk, rfl, ha, rt, q⟩ := h
  cases ry
  obtain ⟨nk, b, e, d8, rfl, rfl, is⟩ := key_is I hk rk rx
  obtain ⟨ys, hd, p, sys, _, _⟩ := dT_of I ha rt
  refine wpAny_in_heap (room8 hu _ _) is sys hd ?_
  refine ⟨.bl _, H, I.tok _, ?_, q⟩
  show _ = _
  congr 1
  simp only [Bool.false_eq_true, if_false]
  rcases rt.find e with ⟨e1, e2⟩ | ⟨pv, w, e1, e2, _⟩ <;> rcases at_of (k := nk) p with ⟨e3, e4⟩ | ⟨w', p', e3, e4, _⟩
  · rw [e1, e4]; rfl
  · rw [e2] at e3; cases e3
  · rw [e2] at e3; cases e3
  · rw [e1, e4]; rfl
theorem op_notInDk (hu : X.A.units + 64 < cLine) : OpR X (compareOp .NotIn) (rInDk X c true) := by
  intro pins s σ H x y v u Q I rx ry h
  obtain ⟨F, ρ, k, kvs, es, a, hk, rk, rfl, ha, rt, q⟩ := h
  cases ry
  obtain ⟨nk, b, e, d8, rfl, rfl, is⟩ := key_is I hk rk rx
  obtain ⟨ys, hd, p, sys, _, _⟩ := dT_of I ha rt
  show wpAny _ _ (do return Value.bool (!(← contains (.ref a) (.ref b)))) _ _ s
  refine wpAny_bind (wpAny_contains_heap (room8 hu _ _) is sys hd (wpAny_pure ?_))
  refine ⟨.bl _, H, I.tok _, ?_, q⟩
  show _ = _
  congr 1
  simp only [if_true]
  rcases rt.find e with ⟨e1, e2⟩ | ⟨pv, w, e1, e2, _⟩ <;> rcases at_of (k := nk) p with ⟨e3, e4⟩ | ⟨w', p', e3, e4, _⟩
  · rw [e1, e4]; rfl
  · rw [e2] at e3; cases e3
  · rw [e2] at e3; cases e3
  · rw [e1, e4]; rfl
def rInKk (neg : Bool) : R2 := fun x y H Q => ∃ a o, y = .ref a ∧ DGet H a x o ∧ Q (.bl (if neg then !o.isSome else o.isSome)) H
theorem op_inKk (hu : X.A.units + 1 < cLine) : OpR X (compareOp .In) (rInKk false) := by
  intro pins s σ H x y v u Q I rx ry h
  obtain ⟨a, o, rfl, g, q⟩ := h
  cases ry
  exact d_in hu I g rx fun s3 I3 => ⟨.bl o.isSome, H, I3, rfl, q⟩
theorem op_notInKk (hu : X.A.units + 1 < cLine) : OpR X (compareOp .NotIn) (rInKk true) := by
  intro pins s σ H x y v u Q I rx ry h
  obtain ⟨a, o, rfl, g, q⟩ := h
  cases ry
  exact d_notIn hu I g rx fun s3 I3 => ⟨.bl (!o.isSome), H, I3, rfl, q⟩
theorem get_k {F : Addr → Prop} {ρ : List Addr} {H : Hp} {k : PV} {x : V} {kvs : List (PV × PV)} {es : List (Key × V)} {a : Addr} (hk : keyT false k = true) (rk : RV κ F ρ H k x) (h : H a = some (.dK es)) (r : RKs κ F ρ H kvs es) :
    (find k kvs = none ∧ DGet H a x none) ∨ ∃ p w, find k kvs = some p ∧ DGet H a x (some w) ∧ RV κ F ρ H p w := by
  obtain ⟨kk, e⟩ := keyT_false hk
  have ex := rv_key e rk
  subst ex
  have g : DGet H a (kV kk) (valV es kk) := DGet.k h
  rcases r.find e with ⟨e1, e2⟩ | ⟨p, w, e1, e2, rv⟩
  · rw [e2] at g; exact .inl ⟨e1, g⟩
  · rw [e2] at g; exact .inr ⟨p, w, e1, g, rv⟩
theorem o_in : Op2 Γ N sc (compareOp .In) O.in := fun n c fa G X g => by
  refine ⟨_, OpR.or (op_inD g.u65) (OpR.or (op_inT g.u65) (OpR.or (op_inKk g.u1) (op_inDk (c := c) g.u64))), ?_⟩
  intro ρ st H p q v x y Q A rp rq ef k
  unfold O.in O.inB at ef
  split at ef
  · rename_i xs
    split at ef
    · rename_i hf
      rw [Bool.and_eq_true] at hf
      cases ef
      refine .inr (.inl ⟨toPD p, toPDs xs, dp_rr hf.1 rp, dp_rr (n := 60) (p := .tup xs) hf.2 rq, shapedS hf.1, shaped60 (x := .tup xs) hf.2, ?_⟩)
      refine now A k ?_
      simp only [RV, Bool.false_eq_true, if_false]
      rw [any_pd hf.1 xs hf.2]
    · cases ef
  · rename_i xs
    split at ef
    · rename_i hf
      rw [Bool.and_eq_true] at hf
      cases ef
      refine .inl ⟨toPD p, toPDs xs, dp_rr hf.1 rp, dp_rr (n := 60) (p := .lst xs) hf.2 rq, shapedS hf.1, shaped60 (x := .lst xs) hf.2, ?_⟩
      refine now A k ?_
      simp only [RV]
      rw [any_pd hf.1 xs hf.2]
    · cases ef
  · rename_i t kvs
    split at ef
    · rename_i hk
      cases ef
      cases t with
      | false =>
        obtain ⟨a, es, rfl, h1, h2⟩ := rq
        rcases get_k hk (rr_rv hk rp) h1 h2 with ⟨e1, g1⟩ | ⟨pv, w, e1, g1, _⟩
        · refine .inr (.inr (.inl ⟨a, none, rfl, g1, now A k ?_⟩))
          simp only [RV, Bool.false_eq_true, if_false]
          rw [e1]; rfl
        · refine .inr (.inr (.inl ⟨a, some w, rfl, g1, now A k ?_⟩))
          simp only [RV, Bool.false_eq_true, if_false]
          rw [e1]; rfl
      | true =>
        obtain ⟨a, es, rfl, h1, h2⟩ := rq
        refine .inr (.inr (.inr ⟨_, ρ, p, kvs, es, a, hk, rr_rv hk rp, rfl, h1, h2, now A k ?_⟩))
        simp only [RV, Bool.false_eq_true, if_false]
    · cases ef
  · cases ef
theorem o_notIn : Op2 Γ N sc (compareOp .NotIn) O.notIn := fun n c fa G X g => by
  refine ⟨_, OpR.or (op_notInD g.u65) (OpR.or (op_notInT g.u65) (OpR.or (op_notInKk g.u1) (op_notInDk (c := c) g.u64))), ?_⟩
  intro ρ st H p q v x y Q A rp rq ef k
  unfold O.notIn O.inB at ef
  split at ef
  · rename_i xs
    split at ef
    · rename_i hf
      rw [Bool.and_eq_true] at hf
      cases ef
      refine .inr (.inl ⟨toPD p, toPDs xs, dp_rr hf.1 rp, dp_rr (n := 60) (p := .tup xs) hf.2 rq, shapedS hf.1, shaped60 (x := .tup xs) hf.2, ?_⟩)
      refine now A k ?_
      simp only [RV, if_true]
      rw [any_pd hf.1 xs hf.2]
    · cases ef
  · rename_i xs
    split at ef
    · rename_i hf
      rw [Bool.and_eq_true] at hf
      cases ef
      refine .inl ⟨toPD p, toPDs xs, dp_rr hf.1 rp, dp_rr (n := 60) (p := .lst xs) hf.2 rq, shapedS hf.1, shaped60 (x := .lst xs) hf.2, ?_⟩
      refine now A k ?_
      simp only [RV]
      rw [any_pd hf.1 xs hf.2]
    · cases ef
  · rename_i t kvs
    split at ef
    · rename_i hk
      cases ef
      cases t with
      | false =>
        obtain ⟨a, es, rfl, h1, h2⟩ := rq
        rcases get_k hk (rr_rv hk rp) h1 h2 with ⟨e1, g1⟩ | ⟨pv, w, e1, g1, _⟩
        · refine .inr (.inr (.inl ⟨a, none, rfl, g1, now A k ?_⟩))
          simp only [RV, if_true]
          rw [e1]; rfl
        · refine .inr (.inr (.inl ⟨a, some w, rfl, g1, now A k ?_⟩))
          simp only [RV, if_true]
          rw [e1]; rfl
      | true =>
        obtain ⟨a, es, rfl, h1, h2⟩ := rq
        refine .inr (.inr (.inr ⟨_, ρ, p, kvs, es, a, hk, rr_rv hk rp, rfl, h1, h2, now A k ?_⟩))
        simp only [RV, if_true]
    · cases ef
  · cases ef
/-! ### items by index, by key -/
def rIxKk : R2 := fun x y H Q => ∃ a v, x = .ref a ∧ DGet H a y (some v) ∧ Q v H
theorem ix_kk (hu : X.A.units + 1 < cLine) : IxR X rIxKk := by
  intro value slice pins s σ H x y v u Q I rx ry h hs
  obtain ⟨a, w, rfl, g, q⟩ := h
  cases rx
  exact PyProof.Rows.tail_any (dict_typeIs I g) PySem.F.slot_dict_getitem.lookup (d_getItem hu I g ry fun w' s3 I3 rw' => ⟨w, H, I3, rw', q⟩) hs
def rIxDk (X : Cx) (c : Nat → Addr) : R2 := fun x y H Q => ∃ F ρ k kvs es a p, keyT true k = true ∧ RV (cnOf X c) F ρ H k y ∧ x = .ref a ∧ H a = some (dTO (cnOf X c) a es) ∧ RTs (cnOf X c) F ρ H kvs es ∧ find k kvs = some p ∧ ∀ w, RV (cnOf X c) F ρ H p w → Q w H
theorem ix_dk (hu : X.A.units + 64 < cLine) : IxR X (rIxDk X c) := by
  intro value slice pins s σ H x y v u Q I rx ry h hs
  obtain ⟨F, ρ, k, kvs, es, a, p, hk, rk, rfl, ha, rt, ef, q⟩ := h
  cases rx
  obtain ⟨nk, b, e, d8, rfl, rfl, is⟩ := key_is I hk rk ry
  obtain ⟨ys, hd, pr, sys, _, _⟩ := dT_of I ha rt
  refine PyProof.Rows.tail_any hd.typeIs PySem.F.slot_dict_getitem.lookup ?_ hs
  rcases rt.find e with ⟨e1, e2⟩ | ⟨pv, w, e1, e2, rv⟩
  · rw [e1] at ef; cases ef
  · rw [ef] at e1
    cases e1
    rcases at_of (k := nk) pr with ⟨e3, e4⟩ | ⟨w', p', e3, e4, rw'⟩
    · rw [e2] at e3; cases e3
    · rw [e2] at e3
      cases e3
      exact wpAny_getItem_heap (room8 hu _ _) is hd e4 ⟨w, H, I.tok _, rw', q w rv⟩
theorem ixN_eq (n : Nat) (i : Int) : ixP n i = ixN n i := rfl
theorem o_item (ha : SE Γ N sc a da) (hb : SE Γ N sc b db) (hs : ∀ o i, subscripted b false o i = operate [o, i] (getItem o i) := by intro _ _; rfl) : SE Γ N sc (.Subscript a b pos) (D.op2 O.item da db) := fun n c fa G X g => by
  refine (pe_ix (IxR.or ix_tup (IxR.or ix_list (IxR.or (ix_kk g.u1) (ix_dk (c := c) g.u64)))) (ha n c fa G X g) (hb n c fa G X g) hs).imp fun σ H Q q => op2_read ?_ q
  intro ρ st H p q v x y Q A rp rq ef k
  have sub : ∀ {ps : List PV} {xs : List V} {i : Int}, RVs (cnOf X c) (Fo G.B ρ) ρ H ps xs → getL ps i = some v → ∃ w, atI xs i = some w ∧ RV (cnOf X c) (Fo G.B ρ) ρ H v w := by
    intro ps xs i r e
    unfold getL at e
    obtain ⟨j, e1, e2⟩ := Option.bind_eq_some_iff.mp e
    obtain ⟨w, e3, rv⟩ := r.get e2
    refine ⟨w, ?_, rv⟩
    unfold atI
    rw [← r.length, ← ixN_eq, e1]
    exact e3
  unfold O.item at ef
  split at ef
  · obtain ⟨a, xs, rfl, h1, r1⟩ := rr_tup rp
    obtain ⟨w, e, rv⟩ := sub r1 ef
    exact .inl ⟨a, xs, _, w, rfl, rr_int rq, h1, e, now A k rv⟩
  · obtain ⟨a, xs, rfl, h1, r1⟩ := rr_lst rp
    obtain ⟨w, e, rv⟩ := sub r1 ef
    exact .inr (.inl ⟨a, xs, _, w, rfl, rr_int rq, SqL.of h1, e, now A k rv⟩)
  · rename_i ns i
    simp only [RR, RV] at rp
    obtain ⟨a, rfl, h1⟩ := rp
    have h1' : SqL X.K H a (ns.map V.int) := by
      rcases h1 with ⟨h1, _⟩ | h1
      · exact .inl h1
      · rcases h1 with (h1 | ⟨_, h1⟩) | h1
        · cases h1
        · cases h1
        · exact .inr h1
    unfold getL at ef
    obtain ⟨j, e1, e2⟩ := Option.bind_eq_some_iff.mp ef
    rw [List.getElem?_map] at e2
    obtain ⟨m, e3, rfl⟩ := Option.map_eq_some_iff.mp e2
    refine .inr (.inl ⟨a, _, _, .int m, rfl, rr_int rq, h1', ?_, now A k (by simp only [RV])⟩)
    unfold atI
    rw [List.length_map] at e1 ⊢
    rw [← ixN_eq, e1]
    show (ns.map V.int)[j]? = _
    rw [List.getElem?_map, e3]
    rfl
  · rename_i t kvs
    split at ef
    · rename_i hk
      cases t with
      | false =>
        obtain ⟨a, es, rfl, h1, h2⟩ := rp
        rcases get_k hk (rr_rv hk rq) h1 h2 with ⟨e1, g1⟩ | ⟨pv, w, e1, g1, rv⟩
        · rw [ef] at e1; cases e1
        · rw [ef] at e1
          cases e1
          exact .inr (.inr (.inl ⟨a, w, rfl, g1, now A k rv⟩))
      | true =>
        obtain ⟨a, es, rfl, h1, h2⟩ := rp
        exact .inr (.inr (.inr ⟨_, ρ, _, kvs, es, a, v, hk, rr_rv hk rq, rfl, h1, h2, ef, fun w rv => now A k rv⟩))
    · cases ef
  · cases ef
end
end Dn

/-! Calls of built-ins, of defs, of classes, of methods; fields. -/
namespace Dn
open PySem L2
section
variable {Γ : Pg} {n : Nat} {c fa : Nat → Addr} {G : Fr} {N : List Str} {sc : Scope} {X : Cx} {κ : Cn} {cs : CS}
variable {a b e d : Expr} {da db dd : DE} {pos p : Pos}
/-! ### built-ins of one, of two values -/
def CS1 (κ : Cn) (G : Fr) (f : PV → Option PV) (r : List V → Hp → VK → Prop) : Prop := ∀ ρ st H p v x Q, At κ G ρ st H → RR κ (Fo G.B ρ) ρ H p x → f p = some v →
  (∀ ρ' H' u, Ext ρ H ρ' H' → At κ G ρ' st H' → RV κ (Fo G.B ρ') ρ' H' v u → Q u H') → r [x] H Q
def CS2 (κ : Cn) (G : Fr) (f : PV → PV → Option PV) (r : List V → Hp → VK → Prop) : Prop := ∀ ρ st H p q v x y Q, At κ G ρ st H → RR κ (Fo G.B ρ) ρ H p x → RR κ (Fo G.B ρ) ρ H q y → f p q = some v →
  (∀ ρ' H' u, Ext ρ H ρ' H' → At κ G ρ' st H' → RV κ (Fo G.B ρ') ρ' H' v u → Q u H') → r [x, y] H Q
theorem cs1_read {r : List V → Hp → VK → Prop} {f : PV → Option PV} (s : CS1 κ G f r) {σ : St} {H : Hp} {Q : VK} (h : tE κ G cs (D.op1 f da) σ H Q) : tCB r (tCons (tE κ G cs da) tNil) σ H Q := by
  obtain ⟨ρ, st, σp, A, R, o⟩ := h
  refine tE_bind A R o fun v st1 ρ1 H1 u e1 A1 R1 ru o1 => ?_
  obtain ⟨res, ef, k⟩ := o1.of
  exact s ρ1 st1 H1 _ res u Q A1 (RR.of A1.wd ru) ef fun ρ' H' u' e' A' r' => k ρ' H' e' A' u' r'
theorem cs2_read {r : List V → Hp → VK → Prop} {f : PV → PV → Option PV} (s : CS2 κ G f r) {σ : St} {H : Hp} {Q : VK} (h : tE κ G cs (D.op2 f da db) σ H Q) : tCB r (tCons (tE κ G cs da) (tCons (tE κ G cs db) tNil)) σ H Q := by
  obtain ⟨ρ, st, σp, A, R, o⟩ := h
  refine tE_bind A R o fun v st1 ρ1 H1 u e1 A1 R1 ru o1 => ?_
  refine tE_bind A1 R1 o1 fun w st2 ρ2 H2 z e2 A2 R2 rz o2 => ?_
  obtain ⟨res, ef, k⟩ := o2.of
  exact s ρ2 st2 H2 _ _ res u z Q A2 (RR.of A2.wd (ru.mono e2.mono)) (RR.of A2.wd rz) ef fun ρ' H' u' e' A' r' => k ρ' H' e' A' u' r'
/-- a global name that the top does not bind -/
def okB (Γ : Pg) (sc : Scope) (x : Str) : Bool := GlB sc x && nameOk x && Γ.free.contains x
theorem okB_gl {x : Str} (g : Good Γ n c fa G N sc X) (h : okB Γ sc x = true) : Gl X x ∧ X.mg x = none ∧ x ≠ ("__name__" : Str) ∧ (x == ("__debug__" : Str)) = false := by
  unfold okB at h
  simp only [Bool.and_eq_true] at h
  exact ⟨gl_of g h.1.1, g.env.bl x (by simpa using h.2), nameOk_n h.1.2, nameOk_d h.1.2⟩
theorem SE.blt1 {x : Str} {id : String} {f : PV → Option PV} (hx : okB Γ sc x = true) (hv : bootBuiltins x = some (.builtin id))
    (h : ∀ (n : Nat) (c fa : Nat → Addr) (G : Fr) (X : Cx), Good Γ n c fa G N sc X → ∃ r, CallR X (.builtin id) r ∧ CS1 (cnOf X c) G f r) (ha : SE Γ N sc a da)
    (hst : ∀ env, starEach [a] env = (false, eval a env) :: starEach [] env := by intro _; rfl) : SE Γ N sc (.Call (.Name x p) [a] [] pos) (D.op1 f da) := fun n c fa G X g => by
  obtain ⟨r, h1, h2⟩ := h n c fa G X g
  obtain ⟨g1, g2, g3, g4⟩ := okB_gl g hx
  exact (pe_callB h1 g1 g2 hv (pa_cons (ha n c fa G X g) pa_nil (hst _)) g3 g4 (hst _) rfl).imp fun σ H Q q => cs1_read h2 q
theorem SE.blt2 {x : Str} {id : String} {f : PV → PV → Option PV} (hx : okB Γ sc x = true) (hv : bootBuiltins x = some (.builtin id))
    (h : ∀ (n : Nat) (c fa : Nat → Addr) (G : Fr) (X : Cx), Good Γ n c fa G N sc X → ∃ r, CallR X (.builtin id) r ∧ CS2 (cnOf X c) G f r) (ha : SE Γ N sc a da) (hb : SE Γ N sc b db)
    (hst : ∀ env, starEach [a, b] env = [(false, eval a env), (false, eval b env)] := by intro _; rfl) (hst2 : ∀ env, starEach [b] env = [(false, eval b env)] := by intro _; rfl) : SE Γ N sc (.Call (.Name x p) [a, b] [] pos) (D.op2 f da db) := fun n c fa G X g => by
  obtain ⟨r, h1, h2⟩ := h n c fa G X g
  obtain ⟨g1, g2, g3, g4⟩ := okB_gl g hx
  have e1 : starEach [a, b] X.env = (false, eval a X.env) :: starEach [b] X.env := by rw [hst, hst2]
  exact (pe_callB h1 g1 g2 hv (pa_cons (ha n c fa G X g) (pa_cons (hb n c fa G X g) pa_nil (hst2 _)) e1) g3 g4 e1 (by rw [hst2]; rfl)).imp fun σ H Q q => cs2_read h2 q
theorem SE.ty1 {x : Str} {T : String} {f : PV → Option PV} (hx : okB Γ sc x = true) (hv : bootBuiltins x = some (.type T))
    (h : ∀ (n : Nat) (c fa : Nat → Addr) (G : Fr) (X : Cx), Good Γ n c fa G N sc X → ∃ r, CallR X (.type T) r ∧ CS1 (cnOf X c) G f r) (ha : SE Γ N sc a da)
    (hst : ∀ env, starEach [a] env = (false, eval a env) :: starEach [] env := by intro _; rfl) : SE Γ N sc (.Call (.Name x p) [a] [] pos) (D.op1 f da) := fun n c fa G X g => by
  obtain ⟨r, h1, h2⟩ := h n c fa G X g
  obtain ⟨g1, g2, g3, g4⟩ := okB_gl g hx
  exact (pe_callTy h1 g1 g2 hv (pa_cons (ha n c fa G X g) pa_nil (hst _)) g3 g4 (hst _) rfl).imp fun σ H Q q => cs1_read h2 q
theorem rr_scr {F : Addr → Prop} {ρ : List Addr} {H : Hp} {ns : List Int} {u : V} (h : RR κ F ρ H (.scr ns) u) : ∃ a, u = .ref a ∧ SqL κ.K H a (ns.map V.int) := by
  simp only [RR, RV] at h
  obtain ⟨a, rfl, h1⟩ := h
  refine ⟨a, rfl, ?_⟩
  rcases h1 with ⟨h1, _⟩ | h1
  · exact .inl h1
  · rcases h1 with (h1 | ⟨_, h1⟩) | h1
    · cases h1
    · cases h1
    · exact .inr h1
/-- a list's, a tuple's items -/
theorem rr_seq {F : Addr → Prop} {ρ : List Addr} {H : Hp} {p : PV} {u : V} (h : RR κ F ρ H p u) : (∀ ps, p = .lst ps → ∃ a xs, u = .ref a ∧ SqL κ.K H a xs ∧ RVs κ F ρ H ps xs) ∧ (∀ ps, p = .tup ps → ∃ a xs, u = .ref a ∧ SqT κ.K H a xs ∧ RVs κ F ρ H ps xs) := by
  refine ⟨fun ps e => ?_, fun ps e => ?_⟩
  · subst e
    obtain ⟨a, xs, e, h1, h2⟩ := rr_lst h
    exact ⟨a, xs, e, SqL.of h1, h2⟩
  · subst e
    exact rr_tup h
/-- len of a dict with keys that are tuples -/
def rLenDk (X : Cx) (c : Nat → Addr) : List V → Hp → VK → Prop := fun vs H Q => ∃ F ρ kvs es a, vs = [.ref a] ∧ H a = some (dTO (cnOf X c) a es) ∧ RTs (cnOf X c) F ρ H kvs es ∧ Q (.int kvs.length) H
theorem ep_len {pins : List (Addr × Obj)} {σ : St} {H : Hp} {s : Shared} {Q : VK} {m : Nat} (I : Inv X pins σ H s) (q : Q (.int m) H) (t : Nat) (tk : Tok) : EP X pins σ Q (.int m tk) { s with toks := t } := ⟨.int m, H, I.tok _, ⟨_, rfl⟩, q⟩
theorem call_lenDk : CallR X (.builtin "len") (rLenDk X c) := by
  intro pins s σ H xs us Q I r h
  obtain ⟨F, ρ, kvs, es, a, rfl, ha, rt, q⟩ := h
  obtain ⟨u, rfl, rx⟩ := Vals.one r
  cases rx
  obtain ⟨ys, hd, p, sys, hl, _⟩ := dT_of I ha rt
  obtain ⟨ee, ep, hr, hz, _⟩ := hd.raw
  have l1 : ys.length = kvs.length := by rw [rt.length]; exact (Paired.length p).symm
  have hl' : kvs.length ≤ 16777216 := by
    rw [rt.length]
    rw [sizeLine_eq] at hl
    exact hl
  refine PyProof.Rows.call_len_slot (n := kvs.length) hd.typeIs PySem.F.slot_dict_len (fun Q' hq => ?_) (by omega) (by omega) ?_
  · refine call_len_raw sys hr ?_
    rw [hz, l1]
    exact hq
  · exact ⟨.int _, H, I.tok _, ⟨_, rfl⟩, q⟩
theorem o_len (hx : okB Γ sc ("len" : Str) = true) (ha : SE Γ N sc a da) (hst : ∀ env, starEach [a] env = (false, eval a env) :: starEach [] env := by intro _; rfl) : SE Γ N sc (.Call (.Name ("len" : Str) p) [a] [] pos) (D.op1 O.len da) := by
  refine SE.blt1 hx (by decide +kernel) (fun n c fa G X g => ⟨_, CallR.or call_len_seq (CallR.or call_lenD (call_lenDk (c := c))), ?_⟩) ha hst
  intro ρ st H p v x Q A rp ef k
  unfold O.len at ef
  split at ef
  · cases ef
    obtain ⟨a, xs, rfl, h1, r1⟩ := rr_tup rp
    exact .inl ⟨a, xs, rfl, .inr h1, now A k (by simp only [RV]; rw [r1.length])⟩
  · cases ef
    obtain ⟨a, xs, rfl, h1, r1⟩ := rr_lst rp
    exact .inl ⟨a, xs, rfl, .inl (SqL.of h1), now A k (by simp only [RV]; rw [r1.length])⟩
  · cases ef
    obtain ⟨a, rfl, h1⟩ := rr_scr rp
    exact .inl ⟨a, _, rfl, .inl h1, now A k (by simp only [RV]; rw [List.length_map])⟩
  · rename_i t kvs
    cases ef
    cases t with
    | false =>
      obtain ⟨a, es, rfl, h1, h2⟩ := rp
      exact .inr (.inl ⟨a, es, rfl, h1, now A k (by simp only [RV]; rw [h2.length])⟩)
    | true =>
      obtain ⟨a, es, rfl, h1, h2⟩ := rp
      exact .inr (.inr ⟨_, ρ, kvs, es, a, rfl, h1, h2, now A k (by simp only [RV])⟩)
  · cases ef
theorem bools_rv {F : Addr → Prop} {ρ : List Addr} {H : Hp} : ∀ {ps : List PV} {xs : List V} {bs : List Bool}, O.bools ps = some bs → RVs κ F ρ H ps xs → xs = bs.map V.bl
  | [], xs, bs, h, r => by
    simp only [O.bools, Option.some.injEq] at h
    subst h
    simp only [RVs] at r
    rw [r]
    rfl
  | p :: ps, xs, bs, h, r => by
    cases p <;> simp only [O.bools, reduceCtorEq] at h
    obtain ⟨t, e, rfl⟩ := Option.map_eq_some_iff.mp h
    simp only [RVs] at r
    obtain ⟨w, r', rfl, h1, h2⟩ := r
    rw [rv_bl h1, bools_rv e h2]
    rfl
theorem ints_rv {F : Addr → Prop} {ρ : List Addr} {H : Hp} : ∀ {ps : List PV} {xs : List V} {bs : List Int}, O.intsP ps = some bs → RVs κ F ρ H ps xs → xs = bs.map V.int
  | [], xs, bs, h, r => by
    simp only [O.intsP, Option.some.injEq] at h
    subst h
    simp only [RVs] at r
    rw [r]
    rfl
  | p :: ps, xs, bs, h, r => by
    cases p <;> simp only [O.intsP, reduceCtorEq] at h
    obtain ⟨t, e, rfl⟩ := Option.map_eq_some_iff.mp h
    simp only [RVs] at r
    obtain ⟨w, r', rfl, h1, h2⟩ := r
    rw [rv_int h1, ints_rv e h2]
    rfl
theorem o_all (hx : okB Γ sc ("all" : Str) = true) (ha : SE Γ N sc a da) (hst : ∀ env, starEach [a] env = (false, eval a env) :: starEach [] env := by intro _; rfl) : SE Γ N sc (.Call (.Name ("all" : Str) p) [a] [] pos) (D.op1 O.all da) := by
  refine SE.blt1 hx (by decide +kernel) (fun n c fa G X g => ⟨_, cr_all g.calm, ?_⟩) ha hst
  intro ρ st H p v x Q A rp ef k
  unfold O.all at ef
  split at ef
  · obtain ⟨bs, e, rfl⟩ := Option.map_eq_some_iff.mp ef
    obtain ⟨a, xs, rfl, h1, r1⟩ := rr_lst rp
    have := bools_rv e r1
    subst this
    exact ⟨a, bs, rfl, SqL.of h1, now A k (by simp only [RV])⟩
  · cases ef
theorem o_sum (hx : okB Γ sc ("sum" : Str) = true) (ha : SE Γ N sc a da) (hst : ∀ env, starEach [a] env = (false, eval a env) :: starEach [] env := by intro _; rfl) : SE Γ N sc (.Call (.Name ("sum" : Str) p) [a] [] pos) (D.op1 O.sum da) := by
  refine SE.blt1 hx (by decide +kernel) (fun n c fa G X g => ⟨_, cr_sum g.calm, ?_⟩) ha hst
  intro ρ st H p v x Q A rp ef k
  unfold O.sum at ef
  split at ef
  · obtain ⟨bs, e, rfl⟩ := Option.map_eq_some_iff.mp ef
    obtain ⟨a, xs, rfl, h1, r1⟩ := rr_lst rp
    have := ints_rv e r1
    subst this
    exact ⟨a, bs, rfl, SqL.of h1, now A k (by simp only [RV])⟩
  · cases ef
theorem o_max2 (hx : okB Γ sc ("max" : Str) = true) (ha : SE Γ N sc a da) (hb : SE Γ N sc b db) (hst : ∀ env, starEach [a, b] env = [(false, eval a env), (false, eval b env)] := by intro _; rfl) (hst2 : ∀ env, starEach [b] env = [(false, eval b env)] := by intro _; rfl) :
    SE Γ N sc (.Call (.Name ("max" : Str) p) [a, b] [] pos) (D.op2 O.max2 da db) := by
  refine SE.blt2 hx (by decide +kernel) (fun n c fa G X g => ⟨_, call_max2 g.calm, ?_⟩) ha hb hst hst2
  intro ρ st H p q v x y Q A rp rq ef k
  unfold O.max2 at ef
  split at ef
  · cases ef
    rw [rr_int rp, rr_int rq]
    exact ⟨_, _, rfl, now A k (by simp only [RV])⟩
  · cases ef
theorem o_min2 (hx : okB Γ sc ("min" : Str) = true) (ha : SE Γ N sc a da) (hb : SE Γ N sc b db) (hst : ∀ env, starEach [a, b] env = [(false, eval a env), (false, eval b env)] := by intro _; rfl) (hst2 : ∀ env, starEach [b] env = [(false, eval b env)] := by intro _; rfl) :
    SE Γ N sc (.Call (.Name ("min" : Str) p) [a, b] [] pos) (D.op2 O.min2 da db) := by
  refine SE.blt2 hx (by decide +kernel) (fun n c fa G X g => ⟨_, call_min2 g.calm, ?_⟩) ha hb hst hst2
  intro ρ st H p q v x y Q A rp rq ef k
  unfold O.min2 at ef
  split at ef
  · cases ef
    rw [rr_int rp, rr_int rq]
    exact ⟨_, _, rfl, now A k (by simp only [RV])⟩
  · cases ef
theorem o_tuple (hx : okB Γ sc ("tuple" : Str) = true) (ha : SE Γ N sc a da) (hst : ∀ env, starEach [a] env = (false, eval a env) :: starEach [] env := by intro _; rfl) : SE Γ N sc (.Call (.Name ("tuple" : Str) p) [a] [] pos) (D.op1 O.tuple da) := by
  refine SE.ty1 hx (by decide +kernel) (fun n c fa G X g => ⟨_, call_tuple_of, ?_⟩) ha hst
  intro ρ st H p v x Q A rp ef k
  unfold O.tuple at ef
  split at ef
  · cases ef
    obtain ⟨a, xs, rfl, h1, r1⟩ := rr_lst rp
    exact ⟨a, xs, rfl, .inl ⟨SqL.of h1, fun p hp => newT A k r1 hp⟩⟩
  · cases ef
    obtain ⟨a, xs, rfl, h1, r1⟩ := rr_tup rp
    exact ⟨a, xs, rfl, .inr ⟨h1, now A k (by simp only [RV]; exact ⟨a, xs, rfl, h1, r1⟩)⟩⟩
  · cases ef
/-- a list made of a list or a tuple -/
theorem SEF.list (hx : okB Γ sc ("list" : Str) = true) (ha : SE Γ N sc a da) (hst : ∀ env, starEach [a] env = (false, eval a env) :: starEach [] env := by intro _; rfl) : SEF Γ N sc (.Call (.Name ("list" : Str) p) [a] [] pos) (D.op1 O.list da) := fun n c fa G X g => by
  obtain ⟨g1, g2, g3, g4⟩ := okB_gl g hx
  refine (pe_callTy call_list_of g1 g2 (by decide +kernel) (pa_cons (ha n c fa G X g) pa_nil (hst _)) g3 g4 (hst _) rfl).imp ?_
  rintro σ H Q ⟨ρ, st, σp, A, R, o⟩
  refine tE_bind A R o fun v st1 ρ1 H1 u e1 A1 R1 ru o1 => ?_
  obtain ⟨res, ef, k⟩ := o1.of
  have rp := RR.of A1.wd ru
  obtain ⟨ps, rfl, k2⟩ := k ρ1 H1 Ext.refl A1
  unfold O.list at ef
  split at ef
  · rename_i eq
    cases ef
    rw [eq] at rp
    obtain ⟨a, xs, rfl, h1, r1⟩ := rr_lst rp
    exact ⟨a, xs, rfl, .inl (SqL.of h1), fun l hl => k2 xs l r1 hl⟩
  · rename_i eq
    cases ef
    rw [eq] at rp
    obtain ⟨a, xs, rfl, h1, r1⟩ := rr_tup rp
    exact ⟨a, xs, rfl, .inr h1, fun l hl => k2 xs l r1 hl⟩
  · cases ef
theorem lo_op1 {f : PV → Option PV} (h : ∀ p v, f p = some v → ∃ ps, v = .lst ps) : LstOnly (D.op1 f da) := fun cs σ st v st' q => lstOnly_bind q fun x st1 _ q => by
  cases e : f (deref st1 x) with
  | none => rw [e] at q; cases q
  | some w => rw [e] at q; cases q; exact h _ _ e
theorem lo_list : LstOnly (D.op1 O.list da) := lo_op1 fun p v h => by
  unfold O.list at h
  split at h <;> cases h <;> exact ⟨_, rfl⟩
/-! ### isinstance -/
theorem rv_ty {F : Addr → Prop} {ρ : List Addr} {H : Hp} {p : PV} {x : V} (r : RR κ F ρ H p x) : (∀ b, p = .bl b → TyX κ.K H x (.type "bool")) ∧ (∀ b, p = .int b → TyX κ.K H x (.type "int")) ∧ (∀ b, p = .str b → TyX κ.K H x (.type "str")) ∧ (p = .non → TyX κ.K H x (.type "NoneType")) ∧
    (∀ b, p = .tup b → TyX κ.K H x (.type "tuple")) ∧ (∀ b, p = .lst b → TyX κ.K H x (.type "list")) ∧ (∀ b, p = .dic false b → TyX κ.K H x (.type "dict")) := by
  refine ⟨fun b e => ?_, fun b e => ?_, fun b e => ?_, fun e => ?_, fun b e => ?_, fun b e => ?_, fun b e => ?_⟩ <;> subst e
  · rw [rr_bl r]; exact .base (.bl b)
  · rw [rr_int r]; exact .base (.int b)
  · rw [rr_str r]; exact .base (.str b)
  · rw [rr_non r]; exact .base .non
  · obtain ⟨a, xs, rfl, h1, _⟩ := rr_tup r
    rcases h1 with (h1 | ⟨o, h1⟩) | ⟨o, _, _, hl, hc, _⟩
    · exact .base (.tup h1)
    · exact .fTuple h1
    · exact .kTuple hl hc
  · obtain ⟨a, xs, rfl, h1, _⟩ := rr_lst r
    exact .base (.lst h1)
  · obtain ⟨a, es, rfl, h1, _⟩ := r
    exact .base (.dK h1)
def tyName : PV → Option String
  | .bl _ => some "bool"
  | .int _ => some "int"
  | .str _ => some "str"
  | .non => some "NoneType"
  | .tup _ => some "tuple"
  | .lst _ => some "list"
  | .dic false _ => some "dict"
  | _ => none
theorem ty_of {F : Addr → Prop} {ρ : List Addr} {H : Hp} {p : PV} {x : V} {T : String} (r : RR κ F ρ H p x) (h : tyName p = some T) : TyX κ.K H x (.type T) := by
  obtain ⟨h1, h2, h3, h4, h5, h6, h7⟩ := rv_ty r
  cases p with
  | non => simp only [tyName, Option.some.injEq] at h; subst h; exact h4 rfl
  | bl b => simp only [tyName, Option.some.injEq] at h; subst h; exact h1 b rfl
  | int b => simp only [tyName, Option.some.injEq] at h; subst h; exact h2 b rfl
  | str b => simp only [tyName, Option.some.injEq] at h; subst h; exact h3 b rfl
  | tup b => simp only [tyName, Option.some.injEq] at h; subst h; exact h5 b rfl
  | lst b => simp only [tyName, Option.some.injEq] at h; subst h; exact h6 b rfl
  | dic t b => cases t <;> simp only [tyName, Option.some.injEq, reduceCtorEq] at h; subst h; exact h7 b rfl
  | ref b => simp [tyName] at h
  | scr b => simp [tyName] at h
theorem SE.isTy {x : Str} {T : String} {f : PV → Option PV} {q : Pos} (hx : okB Γ sc ("isinstance" : Str) = true) (hT : okB Γ sc x = true) (hv : bootBuiltins x = some (.type T))
    (hf : ∀ p v, f p = some v → ∃ T' b, tyName p = some T' ∧ v = .bl b ∧ ∀ K, PySem.W.kitOne K (.type T') (.type T) = some b) (ha : SE Γ N sc a da)
    (hst : ∀ env, starEach [a, .Name x q] env = (false, eval a env) :: starEach [.Name x q] env := by intro _; rfl) : SE Γ N sc (.Call (.Name ("isinstance" : Str) p) [a, .Name x q] [] pos) (D.op1 f da) := fun n c fa G X g => by
  obtain ⟨g1, g2, g3, g4⟩ := okB_gl g hx
  obtain ⟨t1, t2, t3, t4⟩ := okB_gl g hT
  refine (pe_callB call_isi g1 g2 (by decide +kernel) (pa_cons (ha n c fa G X g) (pa_cons (pe_bltn (v := .ty T) t1 t2 hv rfl t3 t4) pa_nil) (hst _)) g3 g4 (hst _) rfl).imp ?_
  rintro σ H Q ⟨ρ, st, σp, A, R, o⟩
  refine tE_bind A R o fun v st1 ρ1 H1 u e1 A1 R1 ru o1 => ?_
  obtain ⟨res, ef, k⟩ := o1.of
  obtain ⟨T', b, ht, rfl, hk⟩ := hf _ _ ef
  exact ⟨u, .ty T, .type T', .type T, b, rfl, .ty T, ty_of (RR.of A1.wd ru) ht, hk _, now (v := .bl b) A1 (fun ρ' H' u e A r => k ρ' H' e A u r) (by simp only [RV])⟩
theorem o_isTup (hx : okB Γ sc ("isinstance" : Str) = true) (hT : okB Γ sc ("tuple" : Str) = true) (ha : SE Γ N sc a da) {q : Pos} (hst : ∀ env, starEach [a, .Name ("tuple" : Str) q] env = (false, eval a env) :: starEach [.Name ("tuple" : Str) q] env := by intro _; rfl) :
    SE Γ N sc (.Call (.Name ("isinstance" : Str) p) [a, .Name ("tuple" : Str) q] [] pos) (D.op1 O.isTup da) := by
  refine SE.isTy hx hT (T := "tuple") (by decide +kernel) (fun p v h => ?_) ha hst
  cases p with
  | non => cases h; exact ⟨_, _, rfl, rfl, fun K => by kernel_rfl⟩
  | bl b => cases h; exact ⟨_, _, rfl, rfl, fun K => by kernel_rfl⟩
  | int b => cases h; exact ⟨_, _, rfl, rfl, fun K => by kernel_rfl⟩
  | str b => cases h; exact ⟨_, _, rfl, rfl, fun K => by kernel_rfl⟩
  | tup b => cases h; exact ⟨_, _, rfl, rfl, fun K => by kernel_rfl⟩
  | lst b => cases h; exact ⟨_, _, rfl, rfl, fun K => by kernel_rfl⟩
  | dic t b => cases t <;> cases h; exact ⟨_, _, rfl, rfl, fun K => by kernel_rfl⟩
  | ref b => cases h
  | scr b => cases h
theorem o_isInt (hx : okB Γ sc ("isinstance" : Str) = true) (hT : okB Γ sc ("int" : Str) = true) (ha : SE Γ N sc a da) {q : Pos} (hst : ∀ env, starEach [a, .Name ("int" : Str) q] env = (false, eval a env) :: starEach [.Name ("int" : Str) q] env := by intro _; rfl) :
    SE Γ N sc (.Call (.Name ("isinstance" : Str) p) [a, .Name ("int" : Str) q] [] pos) (D.op1 O.isInt da) := by
  refine SE.isTy hx hT (T := "int") (by decide +kernel) (fun p v h => ?_) ha hst
  cases p with
  | non => cases h; exact ⟨_, _, rfl, rfl, fun K => by kernel_rfl⟩
  | bl b => cases h; exact ⟨_, _, rfl, rfl, fun K => by kernel_rfl⟩
  | int b => cases h; exact ⟨_, _, rfl, rfl, fun K => by kernel_rfl⟩
  | str b => cases h; exact ⟨_, _, rfl, rfl, fun K => by kernel_rfl⟩
  | tup b => cases h; exact ⟨_, _, rfl, rfl, fun K => by kernel_rfl⟩
  | lst b => cases h; exact ⟨_, _, rfl, rfl, fun K => by kernel_rfl⟩
  | dic t b => cases t <;> cases h; exact ⟨_, _, rfl, rfl, fun K => by kernel_rfl⟩
  | ref b => cases h
  | scr b => cases h
theorem o_isBool (hx : okB Γ sc ("isinstance" : Str) = true) (hT : okB Γ sc ("bool" : Str) = true) (ha : SE Γ N sc a da) {q : Pos} (hst : ∀ env, starEach [a, .Name ("bool" : Str) q] env = (false, eval a env) :: starEach [.Name ("bool" : Str) q] env := by intro _; rfl) :
    SE Γ N sc (.Call (.Name ("isinstance" : Str) p) [a, .Name ("bool" : Str) q] [] pos) (D.op1 O.isBool da) := by
  refine SE.isTy hx hT (T := "bool") (by decide +kernel) (fun p v h => ?_) ha hst
  cases p with
  | non => cases h; exact ⟨_, _, rfl, rfl, fun K => by kernel_rfl⟩
  | bl b => cases h; exact ⟨_, _, rfl, rfl, fun K => by kernel_rfl⟩
  | int b => cases h; exact ⟨_, _, rfl, rfl, fun K => by kernel_rfl⟩
  | str b => cases h; exact ⟨_, _, rfl, rfl, fun K => by kernel_rfl⟩
  | tup b => cases h; exact ⟨_, _, rfl, rfl, fun K => by kernel_rfl⟩
  | lst b => cases h; exact ⟨_, _, rfl, rfl, fun K => by kernel_rfl⟩
  | dic t b => cases t <;> cases h; exact ⟨_, _, rfl, rfl, fun K => by kernel_rfl⟩
  | ref b => cases h
  | scr b => cases h
end
end Dn

/-! Calls of defs, of classes, of methods; fields; methods of lists, dicts; slices. -/
namespace Dn
open PySem L2
theorem callN_len {tbl : Nat → Option FnD} {n f : Nat} {vs : List PV} {st : Store} (h : callN tbl n f vs st ≠ .bad) : ∃ d, tbl f = some d ∧ vs.length = d.np := by
  cases n with
  | zero => exact absurd rfl h
  | succ n =>
    simp only [callN] at h
    cases q : tbl f with
    | none => rw [q] at h; exact absurd rfl h
    | some d =>
      rw [q] at h
      refine ⟨d, rfl, ?_⟩
      simp only [runFn] at h
      by_cases e : vs.length.beq d.np = true
      · exact Nat.eq_of_beq_eq_true e
      · rw [if_neg e] at h; exact absurd rfl h
section
variable {Γ : Pg} {n : Nat} {c fa : Nat → Addr} {G : Fr} {N : List Str} {sc : Scope} {X : Cx} {κ : Cn} {cs : CS}
variable {a b e d : Expr} {da db dd : DE} {pos p : Pos} {es : List Expr} {ds : DEs}
/-- the machine's call serves the promise -/
theorem sp_of {f : Nat} {ρ : List Addr} {st : Store} {H : Hp} {pvs : List PV} {vs : List V} {Q : VK} (A : At κ G ρ st H) (r : RVs κ (Fo G.B ρ) ρ H pvs vs) (o : Out κ G ρ H (callN Γ.tbl n f pvs st) (PQ κ G Q)) : spI κ Γ n f vs H Q (EXK κ G) := by
  refine ⟨G.B, ρ, st, pvs, A.wd, r, callN_len (n := n) (st := st) (fun e => ?_), ?_⟩
  · rw [e] at o; exact o
  · unfold OutF
    cases q : callN Γ.tbl n f pvs st with
    | ok v st' =>
      rw [q] at o
      exact fun ρ' H' u e W rv => o ρ' H' e (A.step e W) u rv
    | exc ex st' =>
      rw [q] at o
      exact fun ρ' H' cls dd e W rx => ⟨ex, st', ρ', A.step e W, rx, o⟩
    | bad => rw [q] at o; exact o
def okF (Γ : Pg) (sc : Scope) (f : Nat) (x : Str) : Bool := GlB sc x && nameOk x && decide (Γ.gname f = some x) && (Γ.tbl f).isSome
theorem SE.call {f j : Nat} {x : Str} (hx : okF Γ sc f x = true) (hj : j ≤ (Γ.dfl f).length) {dfl : List PV} (hd : (Γ.dfl f).drop j = dfl) (hs : SA Γ N sc (e :: es) ds)
    (hst : ∀ env, starEach (e :: es) env = (false, eval e env) :: starEach es env := by intro _; rfl) (hpl : ∀ env, ((backTo pos (starEach es env)).any (·.1)) = false := by intro _; rfl) : SE Γ N sc (.Call (.Name x p) (e :: es) [] pos) (D.call f ds dfl) := fun n c fa G X g => by
  unfold okF at hx
  simp only [Bool.and_eq_true, decide_eq_true_eq] at hx
  obtain ⟨fd, hfd⟩ := Option.isSome_iff_exists.mp hx.2
  obtain ⟨fdt, ps, F, _, kp, bs⟩ := g.env.fn f fd hfd
  obtain ⟨dv, dvs, hb, hv, hr⟩ := bs j hj
  refine (g_call F g.ng g.r0 (gl_of g hx.1.1.1) (g.env.gn f x hx.1.2) kp hb hv g.ps (hs n c fa G X g) (nameOk_d hx.1.1.2) (hst _) (hpl _)).imp ?_
  rintro σ H Q ⟨ρ, st, σp, A, R, o⟩
  refine tA_bind A R o fun vs st1 ρ1 H1 us e1 A1 R1 rs o1 => ?_
  exact sp_of A1 (rs.append (by rw [← hd]; exact hr _ _ _)) o1
theorem SE.call0 {f j : Nat} {x : Str} (hx : okF Γ sc f x = true) (hj : j ≤ (Γ.dfl f).length) {dfl : List PV} (hd : (Γ.dfl f).drop j = dfl) : SE Γ N sc (.Call (.Name x p) [] [] pos) (D.call f D.nil dfl) := fun n c fa G X g => by
  unfold okF at hx
  simp only [Bool.and_eq_true, decide_eq_true_eq] at hx
  obtain ⟨fd, hfd⟩ := Option.isSome_iff_exists.mp hx.2
  obtain ⟨fdt, ps, F, _, kp, bs⟩ := g.env.fn f fd hfd
  obtain ⟨dv, dvs, hb, hv, hr⟩ := bs j hj
  refine (g_call0 F g.ng g.r0 (gl_of g hx.1.1.1) (g.env.gn f x hx.1.2) kp hb hv g.ps (nameOk_d hx.1.1.2)).imp ?_
  rintro σ H Q ⟨ρ, st, σp, A, R, o⟩
  show spI (cnOf X c) Γ n f ([] ++ dvs) H Q _
  have o : Out (cnOf X c) G ρ H (callN Γ.tbl n f ([] ++ dfl) st) (PQ (cnOf X c) G Q) := o
  exact sp_of (pvs := [] ++ dfl) A (RVs.nil.append (by rw [← hd]; exact hr _ _ _)) o
/-! ### instances -/
theorem RFs.look {F : Addr → Prop} {ρ : List Addr} {H : Hp} {f : Str} : ∀ {fs : List (Str × PV)} {gs : List (Str × V)}, RFs κ F ρ H fs gs → (fget f fs = none ∧ gs.lookup f = none) ∨ ∃ p v, fget f fs = some p ∧ gs.lookup f = some v ∧ RV κ F ρ H p v
  | [], gs, h => by
    cases (show gs = [] from h)
    exact .inl ⟨rfl, rfl⟩
  | (k, p) :: t, gs, h => by
    obtain ⟨v, r, rfl, h1, h2⟩ := h
    by_cases e : k = f
    · subst e
      exact .inr ⟨p, v, by simp [fget], by simp [List.lookup], h1⟩
    · have e1 : fget f ((k, p) :: t) = fget f t := by simp [fget, sEq_false.mpr e]
      have e2 : List.lookup f ((k, v) :: r) = List.lookup f r := by
        rw [List.lookup_cons]
        have : (f == k) = false := by simpa using fun z => e z.symm
        rw [this]
      rw [e1, e2]
      exact RFs.look h2
theorem RFs.put {F : Addr → Prop} {ρ : List Addr} {H : Hp} {f : Str} {p : PV} {v : V} (r : RV κ F ρ H p v) : ∀ {fs : List (Str × PV)} {gs : List (Str × V)}, RFs κ F ρ H fs gs → RFs κ F ρ H (fput f p fs) (putF f v gs)
  | [], gs, h => by
    cases (show gs = [] from h)
    exact ⟨v, [], rfl, r, rfl⟩
  | (k, q) :: t, gs, h => by
    obtain ⟨w, r', rfl, h1, h2⟩ := h
    by_cases e : k = f
    · subst e
      simp only [fput, putF, sEq_self, if_true]
      exact ⟨v, r', rfl, r, h2⟩
    · simp only [fput, putF, sEq_false.mpr e, if_neg e]
      exact ⟨w, _, rfl, h1, RFs.put r h2⟩
theorem RFs.length {F : Addr → Prop} {ρ : List Addr} {H : Hp} : ∀ {fs : List (Str × PV)} {gs : List (Str × V)}, RFs κ F ρ H fs gs → fs.length = gs.length
  | [], gs, h => by cases (show gs = [] from h); rfl
  | (k, q) :: t, gs, h => by
    obtain ⟨w, r', rfl, h1, h2⟩ := h
    simp [RFs.length h2]
def okC (Γ : Pg) (sc : Scope) (C f : Nat) (x : Str) : Bool := GlB sc x && nameOk x && decide (Γ.cname C = some x) && decide (Γ.cinit C = f) && (Γ.tbl f).isSome
/-- a new instance in the store -/
theorem Wd.inst {B : Addr → Prop} {ρ : List Addr} {st : Store} {H : Hp} (W : Wd κ B ρ st H) {x dx : Addr} (C : Nat) (hx : H x = none) (hd : H dx = none) (hn : dx ≠ x) :
    Ext ρ H (ρ ++ [x]) (upd (upd H dx (.own x)) x (.ins (κ.cls C) dx [])) ∧ Wd κ B (ρ ++ [x]) (st ++ [.ins C []]) (upd (upd H dx (.own x)) x (.ins (κ.cls C) dx [])) := by
  have hx' : (upd H dx (.own x)) x = none := by rw [upd_ne (Ne.symm hn)]; exact hx
  exact ⟨(ext_new hd).trans (ext_add hx' _ rfl), (W.new hd).add hx' ⟨dx, [], upd_same, rfl⟩⟩
theorem SE.new {C f j : Nat} {x : Str} (hx : okC Γ sc C f x = true) (hj : j ≤ (Γ.dfl f).length) {dfl : List PV} (hd : (Γ.dfl f).drop j = dfl) (hs : SA Γ N sc (e :: es) ds)
    (hst : ∀ env, starEach (e :: es) env = (false, eval e env) :: starEach es env := by intro _; rfl) (hpl : ∀ env, ((backTo pos (starEach es env)).any (·.1)) = false := by intro _; rfl) : SE Γ N sc (.Call (.Name x p) (e :: es) [] pos) (D.new C f ds dfl) := fun n c fa G X g => by
  unfold okC at hx
  simp only [Bool.and_eq_true, decide_eq_true_eq] at hx
  obtain ⟨fd, hfd⟩ := Option.isSome_iff_exists.mp hx.2
  obtain ⟨fdt, ps, F, _, kp, bs⟩ := g.env.fn f fd hfd
  obtain ⟨dv, dvs, hb, hv, hr⟩ := bs j hj
  obtain ⟨c1, c2, c3⟩ := g.env.cn C x hx.1.1.2
  rw [hx.1.2] at c2
  refine (g_make c2 F g.ng g.room (gl_of g hx.1.1.1.1) c1 hb hv g.ps (hs n c fa G X g) (nameOk_d hx.1.1.1.2) (hst _) (hpl _)).imp ?_
  rintro σ H Q ⟨ρ, st, σp, A, R, o⟩
  refine tA_bind A R o fun vs st1 ρ1 H1 us e1 A1 R1 rs o1 => ?_
  intro y dx hy hdx hne
  obtain ⟨e2, W2⟩ := A1.wd.inst C hy hdx hne
  have A2 := A1.step e2 W2
  have hself : RV (cnOf X c) (Fo G.B (ρ1 ++ [y])) (ρ1 ++ [y]) (upd (upd H1 dx (.own y)) y (.ins (c C) dx [])) (.ref st1.length) (.ref y) := by
    simp only [RV]
    exact ⟨y, rfl, by rw [← A1.wd.len]; simp⟩
  refine sp_of (pvs := .ref st1.length :: (vs ++ dfl)) A2 (RVs.cons hself ((rs.mono e2.mono).append (by rw [← hd]; exact hr _ _ _))) ?_
  have o2 : Out (cnOf X c) G (ρ1 ++ [y]) (upd (upd H1 dx (.own y)) y (.ins (c C) dx [])) ((callN Γ.tbl n f (.ref st1.length :: (vs ++ dfl)) (st1 ++ [.ins C []])).bind fun v st' => match v with | .non => .ok (.ref st1.length) st' | _ => .bad) (PQ (cnOf X c) G Q) := by
    refine Out.weak e2 ?_
    exact o1
  refine o2.bind.mono fun v st3 ρ3 H3 e3 A3 o3 => ?_
  intro u rv
  split at o3
  · refine ⟨rv_non rv, ?_⟩
    exact o3.ret A3 _ (hself.mono e3.mono)
  · exact o3.elim
theorem SE.new0 {C f j : Nat} {x : Str} (hx : okC Γ sc C f x = true) (hj : j ≤ (Γ.dfl f).length) {dfl : List PV} (hd : (Γ.dfl f).drop j = dfl) : SE Γ N sc (.Call (.Name x p) [] [] pos) (D.new C f D.nil dfl) := fun n c fa G X g => by
  unfold okC at hx
  simp only [Bool.and_eq_true, decide_eq_true_eq] at hx
  obtain ⟨fd, hfd⟩ := Option.isSome_iff_exists.mp hx.2
  obtain ⟨fdt, ps, F, _, kp, bs⟩ := g.env.fn f fd hfd
  obtain ⟨dv, dvs, hb, hv, hr⟩ := bs j hj
  obtain ⟨c1, c2, c3⟩ := g.env.cn C x hx.1.1.2
  rw [hx.1.2] at c2
  refine (g_make0 c2 F g.ng g.room (gl_of g hx.1.1.1.1) c1 hb hv g.ps (nameOk_d hx.1.1.1.2)).imp ?_
  rintro σ H Q ⟨ρ, st, σp, A, R, o⟩
  intro y dx hy hdx hne
  obtain ⟨e2, W2⟩ := A.wd.inst C hy hdx hne
  have A2 := A.step e2 W2
  have hself : RV (cnOf X c) (Fo G.B (ρ ++ [y])) (ρ ++ [y]) (upd (upd H dx (.own y)) y (.ins (c C) dx [])) (.ref st.length) (.ref y) := by
    simp only [RV]
    exact ⟨y, rfl, by rw [← A.wd.len]; simp⟩
  refine sp_of (pvs := .ref st.length :: ([] ++ dfl)) A2 (RVs.cons hself (RVs.nil.append (by rw [← hd]; exact hr _ _ _))) ?_
  have o2 : Out (cnOf X c) G (ρ ++ [y]) (upd (upd H dx (.own y)) y (.ins (c C) dx [])) ((callN Γ.tbl n f (.ref st.length :: ([] ++ dfl)) (st ++ [.ins C []])).bind fun v st' => match v with | .non => .ok (.ref st.length) st' | _ => .bad) (PQ (cnOf X c) G Q) := by
    refine Out.weak e2 ?_
    exact o
  refine o2.bind.mono fun v st3 ρ3 H3 e3 A3 o3 => ?_
  intro u rv
  split at o3
  · refine ⟨rv_non rv, ?_⟩
    exact o3.ret A3 _ (hself.mono e3.mono)
  · exact o3.elim
/-- the instance that a value is -/
theorem ins_at {ρ : List Addr} {st : Store} {H : Hp} (A : At κ G ρ st H) {m C : Nat} {fs : List (Str × PV)} {u : V} (h : st[m]? = some (.ins C fs)) (r : RV κ (Fo G.B ρ) ρ H (.ref m) u) : ∃ a dx gs, u = .ref a ∧ ρ[m]? = some a ∧ H a = some (.ins (κ.cls C) dx gs) ∧ RFs κ (Fo G.B ρ) ρ H fs gs := by
  simp only [RV] at r
  obtain ⟨a, rfl, h1⟩ := r
  obtain ⟨dx, gs, h2, h3⟩ := A.wd.ob m _ a h h1
  exact ⟨a, dx, gs, rfl, h1, h2, h3⟩
def okA (Γ : Pg) (C : Nat) (f : Str) : Bool := (Γ.cname C).isSome && (Γ.flds C).contains f
theorem SE.attr {C : Nat} {f f' : Str} (he : f = f') (hx : okA Γ C f = true) (ha : SE Γ N sc a da) (hb : ∀ env, attributeBase a f env (eval a env) = eval a env := by intro _; rfl) : SE Γ N sc (.Attribute a f pos) (D.attr C da f') := fun n c fa G X g => by
  subst he
  unfold okA at hx
  simp only [Bool.and_eq_true] at hx
  obtain ⟨x, ex⟩ := Option.isSome_iff_exists.mp hx.1
  refine (pe_fld (ha n c fa G X g) (hb _)).imp ?_
  rintro σ H Q ⟨ρ, st, σp, A, R, o⟩
  refine tE_bind A R o fun v st1 ρ1 H1 u e1 A1 R1 ru o1 => ?_
  split at o1
  · rename_i m
    split at o1
    · rename_i C' fs em
      split at o1
      · rename_i ec
        have ec := Nat.eq_of_beq_eq_true ec
        subst ec
        obtain ⟨w, ef, k⟩ := o1.of
        obtain ⟨a', dx, gs, rfl, h1, h2, h3⟩ := ins_at A1 em ru
        rcases h3.look with ⟨e1, _⟩ | ⟨q, v, e1, e2, rv⟩
        · rw [ef] at e1; cases e1
        · rw [ef] at e1
          cases e1
          exact ⟨a', _, dx, gs, v, rfl, h2, (g.env.cn _ x ex).2.2, g.env.fl _ x f ex (by simpa using hx.2), e2, k ρ1 H1 Ext.refl A1 v rv⟩
      · exact o1.elim
    · exact o1.elim
  · exact o1.elim
def okM (Γ : Pg) (C f : Nat) (m : Str) : Bool := (Γ.cname C).isSome && (Γ.meths C).contains (m, f) && (Γ.tbl f).isSome
theorem meth_read {C f j : Nat} {m : Str} {dfl : List PV} {dvs : List V} {T : TA} (hr : ∀ F ρ H, RVs κ F ρ H dfl dvs) (hT : ∀ σ H Q, tA κ G (callN Γ.tbl n) ds σ H Q → T σ H Q) {σ : St} {H : Hp} {Q : VK}
    (h : tE κ G (callN Γ.tbl n) (D.meth C f m da ds dfl) σ H Q) : tMeth (κ.cls C) m (spI κ Γ n f) dvs (EXK κ G) (tE κ G (callN Γ.tbl n) da) T σ H Q := by
  obtain ⟨ρ, st, σp, A, R, o⟩ := h
  refine tE_bind A R o fun v st1 ρ1 H1 u e1 A1 R1 ru o1 => ?_
  split at o1
  · rename_i k
    split at o1
    · rename_i C' fs em
      split at o1
      · rename_i ec
        rw [Bool.and_eq_true] at ec
        have ec1 := Nat.eq_of_beq_eq_true ec.1
        subst ec1
        obtain ⟨a', dx, gs, rfl, h1, h2, h3⟩ := ins_at A1 em ru
        have hl : gs.lookup m = none := by
          rcases h3.look (f := m) with ⟨_, e2⟩ | ⟨q, v, e1, _⟩
          · exact e2
          · rw [e1] at ec; exact absurd ec.2 (by simp)
        refine ⟨a', dx, gs, rfl, h2, hl, hT _ _ _ (tA_bind A1 R1 o1 fun vs st2 ρ2 H2 us e2 A2 R2 rs o2 => ?_)⟩
        exact sp_of (pvs := .ref k :: (vs ++ dfl)) A2 (RVs.cons (ru.mono e2.mono) (rs.append (hr _ _ _))) o2
      · exact o1.elim
    · exact o1.elim
  · exact o1.elim
theorem SE.meth {C f j : Nat} {m m' : Str} {apos : Pos} (he : m = m') (hx : okM Γ C f m = true) (hj : j ≤ (Γ.dfl f).length) {dfl : List PV} (hd : (Γ.dfl f).drop j = dfl) (ha : SE Γ N sc a da) (hs : SA Γ N sc (e :: es) ds) {pl : PySem.Env → Sem Bool}
    (ht : ∀ env, eval (.Call (.Attribute a m apos) (e :: es) [] pos) env = (do
      let ov ← eval a env
      standAt apos.atName
      let (f, first) ← holding [ov] (getMethod ov m (pl env))
      callWith pos f first (backTo pos (starEach (e :: es) env)) (backToKw pos (keywordEach [] env))) := by intro _; rfl)
    (hst : ∀ env, starEach (e :: es) env = (false, eval e env) :: starEach es env := by intro _; rfl) (hpl : ∀ env, ((backTo pos (starEach es env)).any (·.1)) = false := by intro _; rfl) :
    SE Γ N sc (.Call (.Attribute a m apos) (e :: es) [] pos) (D.meth C f m' da ds dfl) := fun n c fa G X g => by
  subst he
  unfold okM at hx
  simp only [Bool.and_eq_true] at hx
  obtain ⟨x, ex⟩ := Option.isSome_iff_exists.mp hx.1.1
  obtain ⟨fd, hfd⟩ := Option.isSome_iff_exists.mp hx.2
  obtain ⟨fdt, ps, F, _, kp, bs⟩ := g.env.fn f fd hfd
  obtain ⟨dv, dvs, hb, hv, hr⟩ := bs j hj
  subst hd
  exact (g_meth (ha n c fa G X g) (g.env.cn C x ex).2.2 (g.env.me C x m f ex (by simpa using hx.1.2)) F g.ng g.r0 hb hv g.ps (hs n c fa G X g) (hst _) (hpl _) (ht _)).imp fun σ H Q q => meth_read (j := j) hr (fun _ _ _ q => q) q
theorem SE.meth0 {C f j : Nat} {m m' : Str} {apos : Pos} (he : m = m') (hx : okM Γ C f m = true) (hj : j ≤ (Γ.dfl f).length) {dfl : List PV} (hd : (Γ.dfl f).drop j = dfl) (ha : SE Γ N sc a da) {pl : PySem.Env → Sem Bool}
    (ht : ∀ env, eval (.Call (.Attribute a m apos) [] [] pos) env = (do
      let ov ← eval a env
      standAt apos.atName
      let (f, first) ← holding [ov] (getMethod ov m (pl env))
      callWith pos f first (backTo pos (starEach [] env)) (backToKw pos (keywordEach [] env))) := by intro _; rfl) :
    SE Γ N sc (.Call (.Attribute a m apos) [] [] pos) (D.meth C f m' da D.nil dfl) := fun n c fa G X g => by
  subst he
  unfold okM at hx
  simp only [Bool.and_eq_true] at hx
  obtain ⟨x, ex⟩ := Option.isSome_iff_exists.mp hx.1.1
  obtain ⟨fd, hfd⟩ := Option.isSome_iff_exists.mp hx.2
  obtain ⟨fdt, ps, F, _, kp, bs⟩ := g.env.fn f fd hfd
  obtain ⟨dv, dvs, hb, hv, hr⟩ := bs j hj
  subst hd
  exact (g_meth0 (ha n c fa G X g) (g.env.cn C x ex).2.2 (g.env.me C x m f ex (by simpa using hx.1.2)) F g.ng g.r0 hb hv g.ps (ht _)).imp fun σ H Q q => meth_read (j := j) (ds := D.nil) (T := tNil) hr (fun σ H Q ⟨ρ, st, σp, A, R, o⟩ => o.ret A [] RVs.nil) q

/-! ### methods of lists and dicts -/
def tBMG (P : V → Hp → Prop) (r : V → List V → Hp → VK → Prop) (to : TE) (t : TA) : TE := fun σ H Q => to σ H fun x H1 => P x H1 ∧ t σ H1 fun xs H2 => r x xs H2 Q
/-- as pe_bm, the receiver known otherwise -/
theorem pe_bmG {o : Expr} {to : TE} {t : TA} {name : Str} {apos cpos : Pos} {T id : String} {r : V → List V → Hp → VK → Prop} {P : V → Hp → Prop} (pa : PlainAttrs T) (slot : Slot T name id) (hty : typeOf (.builtin id) = pure (.type "method_descriptor")) (hm : MtR X id r)
    (hP : ∀ (pins : List (Addr × Obj)) (σ : St) (H : Hp) (s : Shared) (x : V) (v : Value), Inv X pins σ H s → RelV x v → P x H → s.TypeIs v T ∧ ∀ a, v = .ref a → ∃ ob, s.heap.get? a = some ob ∧ ob.dict = none)
    (ho : PE X o to) (ha : PA X (e :: es) t) (hbase : attributeBase o name X.env (eval o X.env) = eval o X.env)
    (hfew : ((backTo cpos (starEach (e :: es) X.env)).all (fun x => !x.1) && (backToKw cpos (keywordEach [] X.env)).all (fun x => x.1.isSome)
      && decide ((e :: es).length + ([] : List Keyword).length + (if ([] : List Keyword).isEmpty then 0 else 1) < 30)) = true)
    (hline : (apos.endLine == cpos.line) = true) (hs : starEach (e :: es) X.env = (false, eval e X.env) :: starEach es X.env) (hplain : (backTo cpos (starEach es X.env)).any (·.1) = false) :
    PE X (.Call (.Attribute o name apos) (e :: es) [] cpos) (tBMG P r to t) := by
  constructor
  intro pn s0 sg H0 Q0 I0 hw
  refine wpAny_Call_method_late hbase hfew hline rfl ?_
  refine thn (ho.run pn s0 sg H0 _ I0 hw) ?_
  rintro u0 sA ⟨x0, HA, IA, rA, tyA, qA⟩
  have both := hP pn sg HA sA x0 u0 IA rA tyA
  refine ⟨T, id, pa, slot, hty, both.1, both.2, ?_⟩
  have run := ha.run cpos pn sA sg HA _ IA qA
  rw [hs] at run ⊢
  have np : ((false, eval e X.env) :: backTo cpos (starEach es X.env)).any (·.1) = false := by
    simpa using hplain
  refine Calls.callWith_builtin np ?_
  refine Calls.evalArgs_plain ?_
  refine thn run ?_
  rintro us sB ⟨vs0, HB, IB, rB, qB⟩
  exact hm pn sB sg HB x0 vs0 u0 us Q0 IB rA rB qB
/-- the side rows of a method's call, by rfl -/
structure MRows (o : Expr) (name : Str) (apos : Pos) (e : Expr) (es : List Expr) (cpos : Pos) : Prop where
  base : ∀ env, attributeBase o name env (eval o env) = eval o env
  few : ∀ env, ((backTo cpos (starEach (e :: es) env)).all (fun x => !x.1) && (backToKw cpos (keywordEach [] env)).all (fun x => x.1.isSome)
      && decide ((e :: es).length + ([] : List Keyword).length + (if ([] : List Keyword).isEmpty then 0 else 1) < 30)) = true
  line : (apos.endLine == cpos.line) = true
  st : ∀ env, starEach (e :: es) env = (false, eval e env) :: starEach es env
  pl : ∀ env, (backTo cpos (starEach es env)).any (·.1) = false
theorem lst_at {ρ : List Addr} {st : Store} {H : Hp} {v : PV} {u : V} (A : At κ G ρ st H) (r : RV κ (Fo G.B ρ) ρ H v u) (h : D.lstAt st v = true) : ∃ m ps a xs, v = .ref m ∧ st[m]? = some (.lst ps) ∧ u = .ref a ∧ ρ[m]? = some a ∧ H a = some (.lst xs) ∧ RVs κ (Fo G.B ρ) ρ H ps xs := by
  unfold D.lstAt at h
  split at h
  · rename_i m
    split at h
    · rename_i ps em
      simp only [RV] at r
      obtain ⟨a, rfl, h1⟩ := r
      obtain ⟨xs, h2, h3⟩ := A.wd.ob m _ a em h1
      exact ⟨m, ps, a, xs, rfl, em, rfl, h1, h2, h3⟩
    · cases h
  · cases h
theorem put_lst {ρ : List Addr} {st : Store} {H : Hp} {m : Nat} {ps : List PV} {xs : List V} {a : Addr} {zs : List V} (A : At κ G ρ st H) (ha : ρ[m]? = some a) (h : H a = some (.lst zs)) (r : RVs κ (Fo G.B ρ) ρ H ps xs) :
    Ext ρ H ρ (upd H a (.lst xs)) ∧ At κ G ρ (st.set m (.lst ps)) (upd H a (.lst xs)) := by
  have e2 : Ext ρ H ρ (upd H a (.lst xs)) := ext_put A.wd ha (fun ys => by rw [h]; simp) (fun o u => by rw [h]; simp)
  exact ⟨e2, A.step e2 (A.wd.put ha (fun ys => by rw [h]; simp) (fun o u => by rw [h]; simp) ⟨xs, upd_same, r.mono e2.mono⟩)⟩
theorem SE.append {apos : Pos} (ha : SE Γ N sc a da) (hb : SE Γ N sc b db) (hm : MRows a ("append" : Str) apos b [] pos) : SE Γ N sc (.Call (.Attribute a ("append" : Str) apos) [b] [] pos) (D.append da db) := fun n c fa G X g => by
  refine (pe_bm PySem.F.plainAttrs_list PySem.F.slot_list_append PySem.F.type_list_append mt_append (ha n c fa G X g) (pa_cons (hb n c fa G X g) pa_nil (hm.st _)) (hm.base _) (hm.few _) hm.line (hm.st _) (hm.pl _)).imp ?_
  rintro σ H Q ⟨ρ, st, σp, A, R, o⟩
  refine tE_bind A R o fun v st1 ρ1 H1 u e1 A1 R1 ru o1 => ?_
  split at o1
  · rename_i hl
    obtain ⟨m, ps, a', xs, rfl, em, rfl, h1, h2, h3⟩ := lst_at A1 ru hl
    refine ⟨.inl ⟨rfl, _, SqL.of h2⟩, tE_bind A1 R1 o1 fun w st2 ρ2 H2 z e2 A2 R2 rz o2 => ?_⟩
    split at o2
    · rename_i m' em'
      cases em'
      split at o2
      · rename_i qs eq
        split at o2
        · rename_i hlen
          have h1' := e2.get h1
          obtain ⟨ys, h4, h5⟩ := A2.wd.ob m _ a' eq h1'
          obtain ⟨e3, A3⟩ := put_lst (ps := qs ++ [w]) (xs := ys ++ [z]) A2 h1' h4 (h5.append (RVs.cons rz RVs.nil))
          refine ⟨a', ys, z, rfl, rfl, h4, by rw [← h5.length]; exact Nat.lt_of_lt_of_le hlen big, ?_⟩
          exact o2 ρ2 _ e3 A3 .non (by simp only [RV])
        · exact o2.elim
      · exact o2.elim
    · rename_i hne
      exact (hne m rfl).elim
  · exact o1.elim
theorem SE.extend {apos : Pos} (ha : SE Γ N sc a da) (hb : SE Γ N sc b db) (hm : MRows a ("extend" : Str) apos b [] pos) : SE Γ N sc (.Call (.Attribute a ("extend" : Str) apos) [b] [] pos) (D.extend da db) := fun n c fa G X g => by
  refine (pe_bm PySem.F.plainAttrs_list PySem.F.slot_list_extend PySem.F.type_list_extend mt_extend (ha n c fa G X g) (pa_cons (hb n c fa G X g) pa_nil (hm.st _)) (hm.base _) (hm.few _) hm.line (hm.st _) (hm.pl _)).imp ?_
  rintro σ H Q ⟨ρ, st, σp, A, R, o⟩
  refine tE_bind A R o fun v st1 ρ1 H1 u e1 A1 R1 ru o1 => ?_
  split at o1
  · rename_i hl
    obtain ⟨m, ps, a', xs, rfl, em, rfl, h1, h2, h3⟩ := lst_at A1 ru hl
    refine ⟨.inl ⟨rfl, _, SqL.of h2⟩, tE_bind A1 R1 o1 fun w st2 ρ2 H2 z e2 A2 R2 rz o2 => ?_⟩
    split at o2
    · rename_i m' em'
      cases em'
      split at o2
      · rename_i qs ts eq et
        split at o2
        · rename_i hlen
          have h1' := e2.get h1
          obtain ⟨ys, h4, h5⟩ := A2.wd.ob m _ a' eq h1'
          have rd := RR.of A2.wd rz
          rw [et] at rd
          obtain ⟨b', zs, rfl, h6, h7⟩ := rr_lst rd
          obtain ⟨e3, A3⟩ := put_lst (ps := qs ++ ts) (xs := ys ++ zs) A2 h1' h4 (h5.append h7)
          refine ⟨a', b', ys, zs, rfl, rfl, h4, h6, by rw [← h5.length, ← h7.length]; exact Nat.le_trans (Nat.le_of_lt hlen) big, ?_⟩
          exact o2 ρ2 _ e3 A3 .non (by simp only [RV])
        · exact o2.elim
      · exact o2.elim
    · rename_i hne
      exact (hne m rfl).elim
  · exact o1.elim
/-- d.get(k, x) -/
def rGet2 (X : Cx) (c : Nat → Addr) : V → List V → Hp → VK → Prop := fun x vs H Q => ∃ F ρ a y z k p t kvs, x = .ref a ∧ vs = [y, z] ∧ keyT t k = true ∧ RV (cnOf X c) F ρ H k y ∧ RV (cnOf X c) F ρ H p z ∧ RR (cnOf X c) F ρ H (.dic t kvs) (.ref a) ∧ ∀ w, RV (cnOf X c) F ρ H ((find k kvs).getD p) w → Q w H
theorem mt_get2 (hu : X.A.units + 64 < cLine) : MtR X "dict.get" (rGet2 X c) := by
  intro pins s σ H x xs v us Q I rx rxs h
  obtain ⟨F, ρ, a, y, z, k, p, t, kvs, rfl, rfl, hk, rk, rp, rd, q⟩ := h
  cases rx
  cases rxs with
  | cons ry rxs =>
    cases rxs with
    | cons rz rxs =>
      cases rxs
      cases t with
      | false =>
        obtain ⟨a', es, e0, h1, h2⟩ := rd
        cases e0
        rcases get_k hk rk h1 h2 with ⟨e1, g1⟩ | ⟨pv, w, e1, g1, rv⟩
        · exact d_get2 (by omega) I g1 ry rz fun w' s4 I4 rw' => ⟨_, H, I4, rw', q _ (by rw [e1]; exact rp)⟩
        · exact d_get2 (by omega) I g1 ry rz fun w' s4 I4 rw' => ⟨_, H, I4, rw', q _ (by rw [e1]; exact rv)⟩
      | true =>
        obtain ⟨a', es, e0, h1, h2⟩ := rd
        cases e0
        obtain ⟨nk, b, e, d8, rfl, rfl, is⟩ := key_is I hk rk ry
        obtain ⟨ys, hd, pr, sys, _, _⟩ := dT_of I h1 h2
        refine call_meetsIn PySem.F.slot_dict_get hd.typeIs PySem.F.entry_dict_get (PySem.F.args_dict_get_3 _ _ _) (meetsH_dict_get_default _ a b sys _) ⟨room8 hu _ _, nk, ys, is, hd, ?_⟩
        rcases h2.find e with ⟨e1, e2⟩ | ⟨pv, w, e1, e2, rv⟩ <;> rcases at_of (k := nk) pr with ⟨e3, e4⟩ | ⟨w', p', e3, e4, rw'⟩
        · rw [e4]
          exact ⟨z, H, I.tok _, rz, q _ (by rw [e1]; exact rp)⟩
        · rw [e2] at e3; cases e3
        · rw [e2] at e3; cases e3
        · rw [e4]
          rw [e2] at e3
          cases e3
          exact ⟨_, H, I.tok _, rw', q _ (by rw [e1]; exact rv)⟩
theorem SE.get2 {apos : Pos} (ha : SE Γ N sc a da) (hb : SE Γ N sc b db) (hd : SE Γ N sc d dd) (hm : MRows a ("get" : Str) apos b [d] pos) (hst : ∀ env, starEach [d] env = [(false, eval d env)] := by intro _; rfl) : SE Γ N sc (.Call (.Attribute a ("get" : Str) apos) [b, d] [] pos) (D.get2 da db dd) := fun n c fa G X g => by
  refine (pe_bmG (P := fun x H => ∃ a, x = .ref a ∧ ((∃ es, H a = some (.dK es)) ∨ ∃ es F ρ kvs, H a = some (dTO (cnOf X c) a es) ∧ RTs (cnOf X c) F ρ H kvs es)) PySem.F.plainAttrs_dict PySem.F.slot_dict_get PySem.F.type_dict_get (mt_get2 (c := c) g.u64) ?_ (ha n c fa G X g) (pa_cons (hb n c fa G X g) (pa_cons (hd n c fa G X g) pa_nil (hst _)) (hm.st _)) (hm.base _) (hm.few _) hm.line (hm.st _) (hm.pl _)).imp ?_
  · rintro pins σ H s x v I rx ⟨a', rfl, h⟩
    cases rx
    rcases h with ⟨es, h⟩ | ⟨es, F, ρ, kvs, h, r⟩
    · obtain ⟨t1, t2, _⟩ := isD_at I (.inl ⟨es, .inl h⟩)
      exact ⟨t1, fun b e => t2 b e⟩
    · obtain ⟨ys, hd, _⟩ := dT_of I h r
      refine ⟨hd.typeIs, fun b e => ?_⟩
      cases e
      obtain ⟨o, _, _, h1, h2, _⟩ := hd
      exact ⟨o, h1, h2.2.1⟩
  · rintro σ H Q ⟨ρ, st, σp, A, R, o⟩
    refine tE_bind A R o fun v st1 ρ1 H1 u e1 A1 R1 ru o1 => ?_
    split at o1
    · rename_i hl
      refine ⟨?_, tE_bind A1 R1 o1 fun w st2 ρ2 H2 y e2 A2 R2 ry o2 => tE_bind A2 R2 o2 fun x st3 ρ3 H3 z e3 A3 R3 rz o3 => ?_⟩
      · have rd := RR.of A1.wd ru
        unfold D.dicAt at hl
        split at hl
        · rename_i t kvs eq
          rw [eq] at rd
          cases t with
          | false => obtain ⟨a', es, rfl, h1, h2⟩ := rd; exact ⟨a', rfl, .inl ⟨es, h1⟩⟩
          | true => obtain ⟨a', es, rfl, h1, h2⟩ := rd; exact ⟨a', rfl, .inr ⟨es, _, ρ1, kvs, h1, h2⟩⟩
        · cases hl
      · have rd := RR.of A3.wd ((ru.mono e2.mono).mono e3.mono)
        split at o3
        · rename_i t kvs eq
          rw [eq] at rd
          split at o3
          · rename_i hk
            have hu : ∃ a', u = .ref a' := by cases t <;> (obtain ⟨a', es, e0, _⟩ := rd; exact ⟨a', e0⟩)
            obtain ⟨a', rfl⟩ := hu
            exact ⟨_, ρ3, a', y, z, w, x, t, kvs, rfl, rfl, hk, ry.mono e3.mono, rz, rd, fun w' r' => o3.ret A3 w' r'⟩
          · exact o3.elim
        · exact o3.elim
    · exact o1.elim
/-! ### slices -/
theorem cut_rvs {F : Addr → Prop} {ρ : List Addr} {H : Hp} {ps : List PV} {xs : List V} (r : RVs κ F ρ H ps xs) (lo hi : Option Int) : RVs κ F ρ H (O.cut ps lo hi) (cutV xs lo hi) := by
  unfold O.cut cutV
  have : ∀ (m dd : Nat) (o : Option Int), O.sIx m dd o = HT.sIx m dd o := fun m dd o => by cases o <;> rfl
  rw [this, this, r.length]
  exact (r.drop _).take _
end
end Dn

/-! Slices; walks; targets; comprehensions. -/
namespace Dn
open PySem L2
section
variable {Γ : Pg} {n : Nat} {c fa : Nat → Addr} {G : Fr} {N : List Str} {sc : Scope} {X : Cx} {κ : Cn} {cs : CS}
variable {a b e d : Expr} {da db dd : DE} {pos p : Pos} {es : List Expr} {ds : DEs}
/-! ### slices -/
def SO (Γ : Pg) (N : List Str) (sc : Scope) : Option Expr → Option DE → Prop
  | none, none => True
  | some e, some d => SE Γ N sc e d
  | _, _ => False
/-- the reading of an end -/
def tO (κ : Cn) (G : Fr) (cs : CS) (d : Option DE) : TO := fun σ H Q => ∃ ρ st σp, At κ G ρ st H ∧ REnv κ (Fo G.B ρ) ρ H σp σ ∧ ∃ (k : Option Int → Store → Res PV) (P : PV → Store → List Addr → Hp → Prop),
  Out κ G ρ H (D.part cs σp d k st) P ∧ ∀ l st1 ρ1 H1, Ext ρ H ρ1 H1 → At κ G ρ1 st1 H1 → REnv κ (Fo G.B ρ1) ρ1 H1 σp σ → Out κ G ρ1 H1 (k l st1) P → Q l H1
theorem PO_imp {X : Cx} {e : Option Expr} {t t' : TO} (h : L2.PO X e t) (i : ∀ σ H Q, t' σ H Q → t σ H Q) : L2.PO X e t' := ⟨fun pins s σ H Q I q => h.run pins s σ H Q I (i σ H Q q)⟩
theorem SO.po {o : Option Expr} {do_ : Option DE} (h : SO Γ N sc o do_) (g : Good Γ n c fa G N sc X) : L2.PO X o (tO (cnOf X c) G (callN Γ.tbl n) do_) := by
  cases o with
  | none =>
    cases do_ with
    | none =>
      refine PO_imp po_none ?_
      rintro σ H Q ⟨ρ, st, σp, A, R, k, P, o, q⟩
      exact q none st ρ H Ext.refl A R o
    | some d => exact h.elim
  | some e =>
    cases do_ with
    | none => exact h.elim
    | some d =>
      have h : SE Γ N sc e d := h
      refine PO_imp (po_some (h n c fa G X g)) ?_
      rintro σ H Q ⟨ρ, st, σp, A, R, k, P, o, q⟩
      refine tE_bind A R o fun v st1 ρ1 H1 u e1 A1 R1 ru o1 => ?_
      split at o1
      · exact ⟨_, rv_int ru, q _ st1 ρ1 H1 e1 A1 R1 o1⟩
      · exact o1.elim
theorem ints_rvs {F : Addr → Prop} {ρ : List Addr} {H : Hp} : ∀ ns : List Int, RVs κ F ρ H (ns.map .int) (ns.map V.int)
  | [] => RVs.nil
  | x :: xs => RVs.cons (by simp only [RV]) (ints_rvs xs)
theorem SE.slice {lo hi : Option Expr} {dl dh : Option DE} {p2 : Pos} (ha : SE Γ N sc a da) (hl : SO Γ N sc lo dl) (hh : SO Γ N sc hi dh) : SE Γ N sc (.Subscript a (.Slice lo hi none p2) pos) (D.slice da dl dh) := fun n c fa G X g => by
  refine (pe_slice (SlR.or sl_tupA sl_list) (ha n c fa G X g) (hl.po g) (hh.po g)).imp ?_
  rintro σ H Q ⟨ρ, st, σp, A, R, o⟩
  refine tE_bind A R o fun v st1 ρ1 H1 u e1 A1 R1 ru o1 => ?_
  refine ⟨ρ1, st1, σp, A1, R1, _, _, o1, fun l st2 ρ2 H2 e2 A2 R2 o2 => ?_⟩
  refine ⟨ρ2, st2, σp, A2, R2, _, _, o2, fun h st3 ρ3 H3 e3 A3 R3 o3 => ?_⟩
  obtain ⟨w, ef, k⟩ := o3.of
  have rd := RR.of A3.wd ((ru.mono e2.mono).mono e3.mono)
  unfold O.slice at ef
  split at ef
  · rename_i xs eq
    cases ef
    rw [eq] at rd
    obtain ⟨a', vs, rfl, h1, r1⟩ := rr_tup rd
    have rc := cut_rvs r1 l h
    refine .inl ⟨a', vs, rfl, h1, fun ⟨z1, z2⟩ => ?_, fun _ q hq => newT A3 (fun ρ' H' u e A r => k ρ' H' e A u r) rc hq⟩
    refine k ρ3 H3 Ext.refl A3 _ ?_
    simp only [RV]
    refine ⟨a', vs, rfl, h1, ?_⟩
    have ec : O.cut xs l h = xs := by
      unfold O.cut
      have : ∀ (m dd : Nat) (o : Option Int), O.sIx m dd o = HT.sIx m dd o := fun m dd o => by cases o <;> rfl
      rw [this, this, r1.length, z1, z2]
      simp [← r1.length]
    rw [ec]
    exact r1
  · rename_i xs eq
    cases ef
    rw [eq] at rd
    obtain ⟨a', vs, rfl, h1, r1⟩ := rr_lst rd
    exact .inr ⟨a', vs, rfl, SqL.of h1, fun q hq => newL A3 (fun ρ' H' u e A r => k ρ' H' e A u r) (cut_rvs r1 l h) hq⟩
  · rename_i xs eq
    cases ef
    rw [eq] at rd
    obtain ⟨a', rfl, h1⟩ := rr_scr rd
    have r1 : RVs (cnOf X c) (Fo G.B ρ3) ρ3 H3 (xs.map .int) (xs.map V.int) := ints_rvs xs
    exact .inr ⟨a', _, rfl, h1, fun q hq => newL A3 (fun ρ' H' u e A r => k ρ' H' e A u r) (cut_rvs r1 l h) hq⟩
  · cases ef

/-! ### what is walked -/
structure Yld (κ : Cn) (B : Addr → Prop) (J : It) (xs : List PV) (src : Option Nat) (ρ0 : List Addr) (H0 : Hp) : Prop where
  go : ∀ (B' : Addr → Prop) (i : Nat) ρ st H, (∀ a, H0 a ≠ none → B' a → B a) → Ext ρ0 H0 ρ H → Wd κ B' ρ st H → D.stands src xs st = true → i < xs.length →
    J.go i H ∧ ∀ x H', J.yld i H x H' → Ext ρ H ρ H' ∧ Wd κ B' ρ st H' ∧ ∃ p, xs[i]? = some p ∧ RV κ (Fo B' ρ) ρ H' p x
  stop : ∀ (B' : Addr → Prop) (i : Nat) ρ st H, (∀ a, H0 a ≠ none → B' a → B a) → Ext ρ0 H0 ρ H → Wd κ B' ρ st H → D.stands src xs st = true → xs.length ≤ i → J.stop i H
theorem Ext.mono' {B B' : Addr → Prop} {ρ ρ' : List Addr} {H H' : Hp} (e : Ext ρ H ρ' H') (hB : ∀ a, H a ≠ none → B' a → B a) : Mono κ (Fo B ρ) ρ H (Fo B' ρ') ρ' H' where
  tup := fun a xs h => sqT_mono e.tup e.frz h
  keep := fun a o h n => e.keep a o h (e.out (fun z => n (.inr z)) (by rw [h]; simp))
  out := fun a h n z => by
    rcases z with z | z
    · exact n (.inl (hB a h z))
    · exact e.out (fun q => n (.inr q)) h z
  get := fun n a h => e.get h
def tI (κ : Cn) (G : Fr) (cs : CS) (d : DI) : TI := fun σ H R => ∃ ρ st σp, At κ G ρ st H ∧ REnv κ (Fo G.B ρ) ρ H σp σ ∧ Out κ G ρ H (d cs σp st) fun p st' ρ' H' => ∀ J, Yld κ G.B J p.1 p.2 ρ' H' → R J H'
def SI (Γ : Pg) (N : List Str) (sc : Scope) (tg e : Expr) (d : DI) : Prop := ∀ (n : Nat) (c fa : Nat → Addr) (G : Fr) (X : Cx), Good Γ n c fa G N sc X → PI X tg e (tI (cnOf X c) G (callN Γ.tbl n) d)
theorem PI_imp {X : Cx} {tg e : Expr} {t t' : TI} (h : PI X tg e t) (i : ∀ σ H R, t' σ H R → t σ H R) : PI X tg e t' := ⟨fun pins s σ H R I q => h.run pins s σ H R I (i σ H R q)⟩
/-- a tuple, a list: what is walked is read when it is there -/
def iSeq (K : PySem.W.Frag) (tl : TE) : TI := fun σ H R => tl σ H fun x H1 => ∃ a, x = .ref a ∧ (((∃ xs, SqT K H1 a xs) ∧ R (Itt K a) H1) ∨ ((∃ xs, SqL K H1 a xs) ∧ R (Itl K a) H1))
theorem pi_seq {tg l : Expr} {tl : TE} (hl : PE X l tl) : PI X tg l (iSeq X.K tl) := by
  constructor
  intro pn s0 sg H0 R0 I0 hw
  refine thn (hl.run pn s0 sg H0 _ I0 hw) ?_
  rintro u0 sA ⟨x0, HA, IA, rA, q⟩
  obtain ⟨l0, rfl, q⟩ := q
  cases rA
  have grow : Inv X pn sg HA sA → ∀ (ob : Obj), Inv X pn sg HA { sA with heap := sA.heap.push ob, toks := sA.toks } := fun J ob => J.kept fun _ _ z => Heap.get?_push_of_some _ z
  have fresh : ∀ b ∈ [sA.heap.objs.size], FpOk X pn HA b := fun b hb => by
    rw [List.mem_singleton.mp hb]
    exact IA.fpOk (Nat.le_refl _) (IA.hok.fresh (Nat.le_refl _))
  rcases q with ⟨⟨xs, hx⟩, q⟩ | ⟨⟨xs, hx⟩, q⟩
  · obtain ⟨its, _, tp, _⟩ := IA.tuple hx
    refine wpAny_pyIter_tuple (items := its.toArray) tp ?_
    exact ⟨_, [sA.heap.objs.size], _, _, HA, rfl, grow IA _, turn_tuple l0 _, ⟨_, Heap.get?_push_size _ rfl, rfl, rfl⟩, fresh, q⟩
  · obtain ⟨its, _, tp, _⟩ := IA.list hx
    refine wpAny_pyIter_list tp.isList ?_
    exact ⟨_, [sA.heap.objs.size], _, _, HA, rfl, grow IA _, turn_list l0 _, ⟨_, Heap.get?_push_size _ rfl, rfl, rfl⟩, fresh, q⟩
theorem sq_none {K : PySem.W.Frag} {H : Hp} {a : Addr} {xs : List V} (h : SqL K (fun _ => none) a xs) : SqL K H a xs := by
  rcases h with (h | ⟨_, h⟩) | h
  · cases h
  · cases h
  · exact .inr h
/-- items that stand as they stood -/
theorem yld_tup {B : Addr → Prop} {ρ0 : List Addr} {H0 : Hp} {a : Addr} {xs : List V} {ps : List PV} (h : SqT κ.K H0 a xs) (r : RVs κ (Fo B ρ0) ρ0 H0 ps xs) : Yld κ B (Itt κ.K a) ps none ρ0 H0 where
  go := fun B' i ρ st H hB e A _ hi => by
    have h1 := sqT_mono e.tup e.frz h
    have r1 := r.mono (e.mono' hB)
    obtain ⟨y, ey, ry⟩ := r1.get (i := i) (x := ps[i]) (by simp [hi])
    refine ⟨⟨xs, y, h1, ey⟩, fun x H' ⟨e1, hx⟩ => ?_⟩
    subst e1
    have := hx xs h1
    rw [ey] at this
    cases this
    exact ⟨Ext.refl, A, _, by simp [hi], ry⟩
  stop := fun B' i ρ st H hB e A _ hi => ⟨xs, sqT_mono e.tup e.frz h, by rw [← r.length]; exact hi⟩
theorem yld_lst {B : Addr → Prop} {ρ0 : List Addr} {H0 : Hp} {a : Addr} {xs : List V} {ps : List PV} (h : ∀ ρ H, Ext ρ0 H0 ρ H → SqL κ.K H a xs) (r : RVs κ (Fo B ρ0) ρ0 H0 ps xs) : Yld κ B (Itl κ.K a) ps none ρ0 H0 where
  go := fun B' i ρ st H hB e A _ hi => by
    have h1 := h ρ H e
    have r1 := r.mono (e.mono' hB)
    obtain ⟨y, ey, ry⟩ := r1.get (i := i) (x := ps[i]) (by simp [hi])
    refine ⟨⟨xs, y, h1, ey⟩, fun x H' ⟨e1, hx⟩ => ?_⟩
    subst e1
    have := hx xs h1
    rw [ey] at this
    cases this
    exact ⟨Ext.refl, A, _, by simp [hi], ry⟩
  stop := fun B' i ρ st H hB e A _ hi => ⟨xs, h ρ H e, by rw [← r.length]; exact hi⟩
theorem stands_some {m : Nat} {ps : List PV} {st : Store} (h : D.stands (some m) ps st = true) : st[m]? = some (.lst ps) := by
  unfold D.stands at h
  simp only at h
  split at h
  · rename_i ys e
    rw [sameL_eq h] at e
    exact e
  · cases h
theorem yld_ref {B : Addr → Prop} {ρ0 : List Addr} {H0 : Hp} {a : Addr} {m : Nat} {ps : List PV} (hm : ρ0[m]? = some a) : Yld κ B (Itl κ.K a) ps (some m) ρ0 H0 where
  go := fun B' i ρ st H hB e A hs hi => by
    obtain ⟨xs, h1, r1⟩ := A.ob m _ a (stands_some hs) (e.get hm)
    obtain ⟨y, ey, ry⟩ := r1.get (i := i) (x := ps[i]) (by simp [hi])
    refine ⟨⟨xs, y, SqL.of h1, ey⟩, fun x H' ⟨e1, hx⟩ => ?_⟩
    subst e1
    have := hx xs (SqL.of h1)
    rw [ey] at this
    cases this
    exact ⟨Ext.refl, A, _, by simp [hi], ry⟩
  stop := fun B' i ρ st H hB e A hs hi => by
    obtain ⟨xs, h1, r1⟩ := A.ob m _ a (stands_some hs) (e.get hm)
    exact ⟨xs, SqL.of h1, by rw [← r1.length]; exact hi⟩
theorem SI.walk {tg : Expr} (ha : SE Γ N sc a da) : SI Γ N sc tg a (D.walk da) := fun n c fa G X g => by
  refine PI_imp (pi_seq (ha n c fa G X g)) ?_
  rintro σ H R ⟨ρ, st, σp, A, Rn, o⟩
  refine tE_bind A Rn o fun v st1 ρ1 H1 u e1 A1 R1 ru o1 => ?_
  split at o1
  · rename_i xs
    simp only [RV] at ru
    obtain ⟨a', vs, rfl, h1, r1⟩ := ru
    exact ⟨a', rfl, .inl ⟨⟨vs, h1⟩, o1.ret A1 _ (yld_tup h1 r1)⟩⟩
  · rename_i xs
    simp only [RV] at ru
    obtain ⟨a', vs, rfl, h1, nf, r1⟩ := ru
    refine ⟨a', rfl, .inr ⟨⟨vs, SqL.of h1⟩, o1.ret A1 _ (yld_lst (xs := vs) (fun ρ H e => SqL.of ?_) r1)⟩⟩
    exact e.keep _ _ h1 (e.out (fun z => nf (.inr z)) (by rw [h1]; simp))
  · rename_i ns
    simp only [RV] at ru
    obtain ⟨a', rfl, h1⟩ := ru
    have r1 : RVs (cnOf X c) (Fo G.B ρ1) ρ1 H1 (ns.map .int) (ns.map V.int) := ints_rvs ns
    have hk : ∀ ρ H, Ext ρ1 H1 ρ H → SqL X.K H a' (ns.map V.int) := fun ρ H e => by
      rcases h1 with ⟨h1, nf⟩ | h1
      · exact .inl (rd_mono (κ := cnOf X c) (e.mono (B := G.B)) nf h1)
      · exact sq_none h1
    exact ⟨a', rfl, .inr ⟨⟨_, hk ρ1 H1 Ext.refl⟩, o1.ret A1 _ (yld_lst hk r1)⟩⟩
  · rename_i m
    split at o1
    · rename_i xs em
      simp only [RV] at ru
      obtain ⟨a', rfl, h1⟩ := ru
      obtain ⟨vs, h2, _⟩ := A1.wd.ob m _ a' em h1
      exact ⟨a', rfl, .inr ⟨⟨vs, SqL.of h2⟩, o1.ret A1 _ (yld_ref h1)⟩⟩
    · exact o1.elim
  · exact o1.elim
theorem upP_length : ∀ (lo : Int) (n : Nat), (D.upP lo n).length = n
  | _, 0 => rfl
  | lo, n + 1 => by simp [D.upP, upP_length]
theorem upP_get : ∀ (n : Nat) (lo : Int) (i : Nat), i < n → (D.upP lo n)[i]? = some (.int (lo + i))
  | 0, _, _, h => by omega
  | n + 1, lo, 0, _ => by simp [D.upP]
  | n + 1, lo, i + 1, h => by
    simp only [D.upP, List.getElem?_cons_succ]
    rw [upP_get n (lo + 1) i (by omega)]
    congr 2
    omega
theorem yld_rng {B : Addr → Prop} {ρ0 : List Addr} {H0 : Hp} {lo : Int} {m : Nat} : Yld κ B (Itr lo m) (D.upP lo m) none ρ0 H0 where
  go := fun B' i ρ st H hB e A _ hi => by
    rw [upP_length] at hi
    refine ⟨hi, fun x H' ⟨e1, hx⟩ => ?_⟩
    subst e1
    subst hx
    exact ⟨Ext.refl, A, _, upP_get m lo i hi, by simp only [RV]⟩
  stop := fun B' i ρ st H hB e A _ hi => by rw [upP_length] at hi; exact hi
theorem SI.range1 {tg : Expr} (hx : okB Γ sc ("range" : Str) = true) (ha : SE Γ N sc a da) (hst : ∀ env, starEach [a] env = [(false, eval a env)] := by intro _; rfl) : SI Γ N sc tg (.Call (.Name ("range" : Str) p) [a] [] pos) (D.range1 da) := fun n c fa G X g => by
  obtain ⟨g1, g2, g3, g4⟩ := okB_gl g hx
  refine PI_imp (pi_range1 g1 g2 (pa_cons (ha n c fa G X g) pa_nil (hst _)) (hst _)) ?_
  rintro σ H R ⟨ρ, st, σp, A, Rn, o⟩
  refine tE_bind A Rn o fun v st1 ρ1 H1 u e1 A1 R1 ru o1 => ?_
  split at o1
  · rename_i j
    split at o1
    · rename_i hj
      simp only [Bool.and_eq_true, decide_eq_true_eq] at hj
      have e2 : (2 : Int) ^ 62 = 4611686018427387904 := by decide
      refine ⟨j, by rw [rv_int ru], by rw [e2]; omega, by rw [e2]; omega, o1.ret A1 _ yld_rng⟩
    · exact o1.elim
  · exact o1.elim
theorem SI.range2 {tg : Expr} (hx : okB Γ sc ("range" : Str) = true) (ha : SE Γ N sc a da) (hb : SE Γ N sc b db) (hst : ∀ env, starEach [a, b] env = [(false, eval a env), (false, eval b env)] := by intro _; rfl) (hst2 : ∀ env, starEach [b] env = [(false, eval b env)] := by intro _; rfl) :
    SI Γ N sc tg (.Call (.Name ("range" : Str) p) [a, b] [] pos) (D.range2 da db) := fun n c fa G X g => by
  obtain ⟨g1, g2, g3, g4⟩ := okB_gl g hx
  have e1 : starEach [a, b] X.env = (false, eval a X.env) :: starEach [b] X.env := by rw [hst, hst2]
  refine PI_imp (pi_range2 g1 g2 (pa_cons (ha n c fa G X g) (pa_cons (hb n c fa G X g) pa_nil (hst2 _)) e1) (hst _) (hst2 _)) ?_
  rintro σ H R ⟨ρ, st, σp, A, Rn, o⟩
  refine tE_bind A Rn o fun v st1 ρ1 H1 u e1 A1 R1 ru o1 => ?_
  refine tE_bind A1 R1 o1 fun w st2 ρ2 H2 z e2 A2 R2 rz o2 => ?_
  split at o2
  · rename_i i j
    split at o2
    · rename_i hj
      simp only [Bool.and_eq_true, decide_eq_true_eq] at hj
      have e2 : (2 : Int) ^ 62 = 4611686018427387904 := by decide
      refine ⟨i, j, by rw [rv_int ru, rv_int rz], ⟨by rw [e2]; omega, by rw [e2]; omega, by rw [e2]; omega, by rw [e2]; omega⟩, o2.ret A2 _ yld_rng⟩
    · exact o2.elim
  · exact o2.elim
theorem zipP_get : ∀ (xs ys : List PV) (i : Nat) (x y : PV), xs[i]? = some x → ys[i]? = some y → (D.zipP xs ys)[i]? = some (.tup [x, y])
  | [], _, i, x, y, h, _ => by simp at h
  | _ :: _, [], i, x, y, _, h => by simp at h
  | a :: xs, b :: ys, 0, x, y, h, g => by simp at h g; subst h; subst g; rfl
  | a :: xs, b :: ys, i + 1, x, y, h, g => by
    simp only [D.zipP, List.getElem?_cons_succ] at h g ⊢
    exact zipP_get xs ys i x y h g
theorem zipP_length : ∀ (xs ys : List PV), (D.zipP xs ys).length = min xs.length ys.length
  | [], ys => by cases ys <;> simp [D.zipP]
  | _ :: _, [] => by simp [D.zipP]
  | a :: xs, b :: ys => by simp only [D.zipP, List.length_cons, zipP_length xs ys]; omega
/-- pairs, from two things that stand -/
theorem yld_zip {B : Addr → Prop} {ρ0 : List Addr} {H0 : Hp} {J : It} {xs ys : List V} {ps qs : List PV} (r : RVs κ (Fo B ρ0) ρ0 H0 ps xs) (r' : RVs κ (Fo B ρ0) ρ0 H0 qs ys)
    (hg : ∀ (i : Nat) ρ H x y, Ext ρ0 H0 ρ H → xs[i]? = some x → ys[i]? = some y → J.go i H) (hy : ∀ (i : Nat) ρ H v H' x y, Ext ρ0 H0 ρ H → xs[i]? = some x → ys[i]? = some y → J.yld i H v H' → ∃ T, v = .ref T ∧ H T = none ∧ H' = upd H T (.tup [x, y]))
    (hs : ∀ (i : Nat) ρ H, Ext ρ0 H0 ρ H → (xs.length ≤ i ∨ ys.length ≤ i) → J.stop i H) : Yld κ B J (D.zipP ps qs) none ρ0 H0 where
  go := fun B' i ρ st H hB e A _ hi => by
    rw [zipP_length] at hi
    have h1 : i < ps.length := by omega
    have h2 : i < qs.length := by omega
    obtain ⟨x, ex, rx⟩ := (r.mono (e.mono' hB)).get (i := i) (x := ps[i]) (by simp [h1])
    obtain ⟨y, ey, ry⟩ := (r'.mono (e.mono' hB)).get (i := i) (x := qs[i]) (by simp [h2])
    refine ⟨hg i ρ H x y e ex ey, fun v H' hv => ?_⟩
    obtain ⟨T, rfl, hT, rfl⟩ := hy i ρ H v H' x y e ex ey hv
    have e2 : Ext ρ H ρ (upd H T (.tup [x, y])) := ext_new hT
    refine ⟨e2, A.new hT, _, zipP_get ps qs i _ _ (List.getElem?_eq_getElem h1) (List.getElem?_eq_getElem h2), ?_⟩
    simp only [RV]
    exact ⟨T, _, rfl, .inl (.inl upd_same), RVs.cons (rx.mono e2.mono) (RVs.cons (ry.mono e2.mono) RVs.nil)⟩
  stop := fun B' i ρ st H hB e A _ hi => by
    rw [zipP_length, r.length, r'.length] at hi
    exact hs i ρ H e (by omega)
theorem SI.zip {elts : List Expr} {kk : Nat} {tpos : Pos} (hx : okB Γ sc ("zip" : Str) = true) (ha : SE Γ N sc a da) (hb : SE Γ N sc b db) (hst : ∀ env, starEach [a, b] env = [(false, eval a env), (false, eval b env)] := by intro _; rfl) (hst2 : ∀ env, starEach [b] env = [(false, eval b env)] := by intro _; rfl) :
    SI Γ N sc (.Tuple elts kk tpos) (.Call (.Name ("zip" : Str) p) [a, b] [] pos) (D.zip da db) := fun n c fa G X g => by
  obtain ⟨g1, g2, g3, g4⟩ := okB_gl g hx
  have e1 : starEach [a, b] X.env = (false, eval a X.env) :: starEach [b] X.env := by rw [hst, hst2]
  refine PI_imp (RZ.pi_zipA g1 g2 (pa_cons (ha n c fa G X g) (pa_cons (hb n c fa G X g) pa_nil (hst2 _)) e1) e1 (by rw [hst2]; rfl)) ?_
  rintro σ H R ⟨ρ, st, σp, A, Rn, o⟩
  refine tE_bind A Rn o fun v st1 ρ1 H1 u e1 A1 R1 ru o1 => ?_
  refine tE_bind A1 R1 o1 fun w st2 ρ2 H2 z e2 A2 R2 rz o2 => ?_
  have ru := ru.mono (e2.mono (κ := cnOf X c) (B := G.B))
  split at o2
  · rename_i xs ys
    simp only [RV] at ru rz
    obtain ⟨a', vs, rfl, h1, r1⟩ := ru
    obtain ⟨b', ws, rfl, h2, r2⟩ := rz
    refine ⟨a', b', vs, ws, rfl, .inr ⟨h1, h2, o2.ret A2 _ (yld_zip r1 r2 (fun i ρ H x y e ex ey => ?_) (fun i ρ H v H' x y e ex ey hv => ?_) fun i ρ H e h => ?_)⟩⟩
    · exact ⟨vs, ws, x, y, sqT_mono (κ := cnOf X c) e.tup e.frz h1, sqT_mono (κ := cnOf X c) e.tup e.frz h2, ex, ey⟩
    · obtain ⟨T, x', y', e1, e2, e3, e4, e5⟩ := hv
      have z1 := e4 vs (sqT_mono (κ := cnOf X c) e.tup e.frz h1)
      have z2 := e5 ws (sqT_mono (κ := cnOf X c) e.tup e.frz h2)
      rw [ex] at z1; rw [ey] at z2
      cases z1; cases z2
      exact ⟨T, e1, e2, e3⟩
    · exact ⟨vs, ws, sqT_mono (κ := cnOf X c) e.tup e.frz h1, sqT_mono (κ := cnOf X c) e.tup e.frz h2, h⟩
  · rename_i xs ys
    simp only [RV] at ru rz
    obtain ⟨a', vs, rfl, h1, n1, r1⟩ := ru
    obtain ⟨b', ws, rfl, h2, n2, r2⟩ := rz
    have k1 : ∀ ρ H, Ext ρ2 H2 ρ H → SqL X.K H a' vs := fun ρ H e => SqL.of (e.keep _ _ h1 (e.out (fun z => n1 (.inr z)) (by rw [h1]; simp)))
    have k2 : ∀ ρ H, Ext ρ2 H2 ρ H → SqL X.K H b' ws := fun ρ H e => SqL.of (e.keep _ _ h2 (e.out (fun z => n2 (.inr z)) (by rw [h2]; simp)))
    refine ⟨a', b', vs, ws, rfl, .inl ⟨SqL.of h1, SqL.of h2, o2.ret A2 _ (yld_zip r1 r2 (fun i ρ H x y e ex ey => ?_) (fun i ρ H v H' x y e ex ey hv => ?_) fun i ρ H e h => ?_)⟩⟩
    · exact ⟨vs, ws, x, y, k1 ρ H e, k2 ρ H e, ex, ey⟩
    · obtain ⟨T, x', y', e1, e2, e3, e4, e5⟩ := hv
      have z1 := e4 vs (k1 ρ H e)
      have z2 := e5 ws (k2 ρ H e)
      rw [ex] at z1; rw [ey] at z2
      cases z1; cases z2
      exact ⟨T, e1, e2, e3⟩
    · exact ⟨vs, ws, k1 ρ H e, k2 ρ H e, h⟩
  · exact o2.elim
end
end Dn

/-! zip of a list and a tuple, of a tuple and a list. -/
namespace ZM
open PySem L2
section
variable {prog : Program} {w : World} {A : Around} {E : Value → Shared → Prop} {s : Shared}
/-- an iterator over a tuple (true), over a list (false) -/
def SIt (k : Bool) (h : Heap) (it l : Addr) (i : Nat) : Prop := match k with
  | true => h.IsTupleIter it l i
  | false => h.IsListIter it l i
def SSq (k : Bool) (h : Heap) (l : Addr) (us : Array Value) : Prop := match k with
  | true => h.IsTuple l us
  | false => h.IsList l us
theorem SIt.extBut {k : Bool} {h h' : Heap} {a b l : Addr} {i : Nat} (x : SIt k h a l i) (hs : Heap.ExtBut b h h') (n : a ≠ b) : SIt k h' a l i := by
  cases k
  · exact Heap.IsListIter.extBut x hs n
  · exact Heap.IsTupleIter.extBut x hs n
theorem SSq.extBut {k : Bool} {h h' : Heap} {a b : Addr} {us : Array Value} (x : SSq k h a us) (hs : Heap.ExtBut b h h') (n : a ≠ b) : SSq k h' a us := by
  cases k
  · exact Heap.IsList.extBut x hs n
  · exact Heap.IsTuple.extBut x hs n
theorem SIt.at {k : Bool} {h h' : Heap} {a l : Addr} {i : Nat} (x : SIt k h a l i) (e : ∀ o, h.get? a = some o → h'.get? a = some o) : SIt k h' a l i := by
  cases k
  · exact Heap.IsListIter.at x e
  · exact Heap.IsTupleIter.at x e
theorem SIt.obj {k : Bool} {h : Heap} {a l : Addr} {i : Nat} (x : SIt k h a l i) : ∃ o, h.get? a = some o ∧ ∀ v, o.data ≠ .cell v := by
  cases k <;> (obtain ⟨o, e, _, d⟩ := x; exact ⟨o, e, fun v q => by rw [d] at q; cases q⟩)
theorem SSq.lt {k : Bool} {h : Heap} {a : Addr} {us : Array Value} (x : SSq k h a us) : a < h.objs.size := by
  cases k <;> (obtain ⟨o, e, _⟩ := x; exact Heap.lt_size e)
theorem it_item {k : Bool} {it l : Addr} {i : Nat} {us : Array Value} {x : Value} {Q : Value → Shared → Prop} (a : SIt k s.heap it l i) (b : SSq k s.heap l us) (c : us[i]? = some x)
    (f : ∀ h', SIt k h' it l (i + 1) → Heap.SameBut it s.heap h' → Q x { s with heap := h' }) : wpAny (model prog w) A (Builtin.SmallTypes.nextOf (.ref it)) Q E s := by
  cases k
  · exact wpAny_nextOf_list_item a b c f
  · exact RZ.nextOf_tuple_item a b c f
theorem it_end {k : Bool} {it l : Addr} {i : Nat} {us : Array Value} {Q : Value → Shared → Prop} (nh : A.handled = none) (a : SIt k s.heap it l i) (b : SSq k s.heap l us) (c : us[i]? = none)
    (f : ∀ h' e, Heap.ExtBut it s.heap h' → (∃ o, h'.get? e = some o ∧ o.cls = .type "StopIteration") → E (.ref e) { s with heap := h' }) : wpAny (model prog w) A (Builtin.SmallTypes.nextOf (.ref it)) Q E s := by
  cases k
  · exact wpAny_nextOf_list_end nh a b c f
  · exact RZ.nextOf_tuple_end nh a b c f
theorem zm_next_item {ka kb : Bool} {zz pI pO j1 j2 t1 t2 : Addr} {n1 n2 : Nat} {us ws : Array Value} {x y a b : Value} {Q : Value → Shared → Prop} (ap : ZipApart zz pI pO j1 j2 t1 t2)
    (qz : IsZip s.heap zz pI pO .none) (qI : IsPair s.heap pI (.ref j1) (.ref j2)) (qO : IsPair s.heap pO a b)
    (w1 : SIt ka s.heap j1 t1 n1) (w2 : SIt kb s.heap j2 t2 n2) (e1 : SSq ka s.heap t1 us) (e2 : SSq kb s.heap t2 ws) (gx : us[n1]? = some x) (gy : ws[n2]? = some y)
    (fin : ∀ h', IsZip h' zz pI pO (rawInt s.heap.objs.size) → IsPair h' pO x y → SIt ka h' j1 t1 (n1 + 1) → SIt kb h' j2 t2 (n2 + 1) → IsPair h' s.heap.objs.size x y → h'.objs.size = s.heap.objs.size + 1 →
      (∀ c o, c ≠ zz → c ≠ pO → c ≠ j1 → c ≠ j2 → s.heap.get? c = some o → h'.get? c = some o) → Q (.ref s.heap.objs.size) { s with heap := h' }) :
    wpAny (model prog w) A (Builtin.«zip.__next__» ⟨[.ref zz], []⟩) (fun fin s' => ∃ v, fin = .done (.ret v) ∧ Q v s') E s := by
  show wpAny _ _ (field (.ref zz) 2 >>= _) _ _ _
  refine wpAny_bind (wpAny_field qz rfl (x := .bool false) rfl ?_)
  show wpAny _ _ (field (.ref zz) 3 >>= _) _ _ _
  refine wpAny_bind (wpAny_field qz rfl (x := .ref pI) rfl ?_)
  refine wpAny_bind (wpAny_seqItems qI rfl ?_)
  show wpAny _ _ (Builtin.SmallTypes.ownedTupleIsFree (.ref zz) >>= _) _ _ _
  refine wpAny_bind ?_
  unfold Builtin.SmallTypes.ownedTupleIsFree
  refine wpAny_bind (wpAny_field qz rfl (x := .none) rfl (wpAny_pure ?_))
  simp only [if_true]
  refine wpAny_bind (wpAny_rule ?_)
  refine wpAny_bind (wpAny_field qz rfl (x := .ref pO) rfl ?_)
  refine wpAny_bind (wpAny_setField_rec qz (by simp) fun m₁ qz₁ sb₁ => ?_)
  replace qz₁ : IsZip m₁ zz pI pO .ellipsis := qz₁
  refine wpAny_bind ?_
  simp only [List.forIn_cons, List.forIn_nil, List.zipIdx_nil, List.zipIdx_cons]

  refine wpAny_bind (wpAny_bind (wpAny_onRaise ?_))
  show wpAny _ _ (Builtin.SmallTypes.nextOf (.ref j1) >>= _) _ _ _
  refine wpAny_bind (it_item (w1.extBut sb₁.extBut ap.i1z) (e1.extBut sb₁.extBut ap.l1z) gx fun m₂ w1₂ sb₂ => wpAny_pure ?_)
  have qO₂ : IsPair m₂ pO a b := sb₂.extBut _ _ ap.TOi1 (sb₁.extBut _ _ ap.TOz qO)
  refine wpAny_bind (wpAny_seqItems qO₂ rfl ?_)
  refine wpAny_bind (wpAny_updateSeq_pair qO₂ fun m₃ qO₃ sb₃ => ?_)
  replace qO₃ : IsPair m₃ pO x b := qO₃
  refine wpAny_bind (wpAny_letGo (wpAny_pure ?_))

  refine wpAny_bind (wpAny_bind (wpAny_onRaise ?_))
  show wpAny _ _ (Builtin.SmallTypes.nextOf (.ref j2) >>= _) _ _ _
  refine wpAny_bind (it_item (((w2.extBut sb₁.extBut ap.i2z).extBut sb₂.extBut ap.i12.symm).extBut sb₃.extBut ap.TOi2.symm)
    (((e2.extBut sb₁.extBut ap.l2z).extBut sb₂.extBut ap.l2i1).extBut sb₃.extBut ap.l2TO) gy fun m₄ w2₄ sb₄ => wpAny_pure ?_)
  have qO₄ : IsPair m₄ pO x b := sb₄.extBut _ _ ap.TOi2 qO₃
  refine wpAny_bind (wpAny_seqItems qO₄ rfl ?_)
  refine wpAny_bind (wpAny_updateSeq_pair qO₄ fun m₅ qO₅ sb₅ => ?_)
  replace qO₅ : IsPair m₅ pO x y := qO₅
  refine wpAny_bind (wpAny_letGo (wpAny_pure (wpAny_pure ?_)))

  refine wpAny_bind (wpAny_seqItems qO₅ rfl ?_)
  refine wpAny_bind (wpAny_newTuple ?_)
  have same : m₅.objs.size = s.heap.objs.size := by rw [sb₅.1, sb₄.1, sb₃.1, sb₂.1, sb₁.1]
  have qz₅ : IsZip m₅ zz pI pO .ellipsis := sb₅.extBut _ _ ap.TOz.symm (sb₄.extBut _ _ ap.i2z.symm (sb₃.extBut _ _ ap.TOz.symm (sb₂.extBut _ _ ap.i1z.symm qz₁)))
  have kp₅ : ∀ c o, c ≠ zz → c ≠ pO → c ≠ j1 → c ≠ j2 → s.heap.get? c = some o → m₅.get? c = some o := fun c o c1 c2 c3 c4 e =>
    sb₅.extBut _ _ c2 (sb₄.extBut _ _ c4 (sb₃.extBut _ _ c2 (sb₂.extBut _ _ c3 (sb₁.extBut _ _ c1 e))))
  have w1₅ : SIt ka m₅ j1 t1 (n1 + 1) := ((w1₂.extBut sb₃.extBut ap.TOi1.symm).extBut sb₄.extBut ap.i12).extBut sb₅.extBut ap.TOi1.symm
  have w2₅ : SIt kb m₅ j2 t2 (n2 + 1) := w2₄.extBut sb₅.extBut ap.TOi2.symm
  have ltz : zz < m₅.objs.size := Heap.lt_size qz₅
  have ltO : pO < m₅.objs.size := Heap.lt_size qO₅
  have lt1 : j1 < m₅.objs.size := by obtain ⟨_, e, _⟩ := SIt.obj w1₅; exact Heap.lt_size e
  have lt2 : j2 < m₅.objs.size := by obtain ⟨_, e, _⟩ := SIt.obj w2₅; exact Heap.lt_size e
  show wpAny _ _ (Builtin.SmallTypes.ownedTupleHandOut (.ref zz) (.ref m₅.objs.size) >>= _) _ _ _
  refine wpAny_bind ?_
  unfold Builtin.SmallTypes.ownedTupleHandOut
  have qz₆ : IsZip (m₅.push { cls := .type "tuple", data := .seq #[x, y] }) zz pI pO .ellipsis := Heap.get?_push_of_some _ qz₅
  refine wpAny_bind (wpAny_setField_rec qz₆ (by simp) fun m₇ qz₇ sb₇ => ?_)
  replace qz₇ : IsZip m₇ zz pI pO (rawInt m₅.objs.size) := qz₇
  refine wpAny_setField_rec qz₇ (by simp) fun m₈ qz₈ sb₈ => ?_
  replace qz₈ : IsZip m₈ zz pI pO (rawInt m₅.objs.size) := qz₈
  have lift : ∀ c o, c ≠ zz → m₅.get? c = some o → m₈.get? c = some o := fun c o c1 e => sb₈.extBut _ _ c1 (sb₇.extBut _ _ c1 (Heap.get?_push_of_some _ e))
  have tz₈ : IsPair m₈ m₅.objs.size x y := sb₈.extBut _ _ (Nat.ne_of_gt ltz) (sb₇.extBut _ _ (Nat.ne_of_gt ltz) (Heap.get?_push_size _ rfl))
  have sz8 : m₈.objs.size = m₅.objs.size + 1 := by rw [sb₈.1, sb₇.1, Heap.size_push]
  rw [same] at qz₈ tz₈ sz8
  refine wpAny_pure ⟨_, rfl, ?_⟩
  show Q (.ref m₅.objs.size) _
  rw [same]
  exact fin m₈ qz₈ (lift _ _ ap.TOz qO₅) (w1₅.at fun o e => lift _ o ap.i1z e) (w2₅.at fun o e => lift _ o ap.i2z e) tz₈ sz8 fun c o c1 c2 c3 c4 e => lift c o c1 (kp₅ c o c1 c2 c3 c4 e)

theorem zm_next_end {ka kb : Bool} {zz pI pO j1 j2 t1 t2 : Addr} {n1 n2 : Nat} {us ws : Array Value} {a b : Value} {Q : Fin → Shared → Prop} (nh : A.handled = none) (ap : ZipApart zz pI pO j1 j2 t1 t2)
    (qz : IsZip s.heap zz pI pO .none) (qI : IsPair s.heap pI (.ref j1) (.ref j2)) (qO : IsPair s.heap pO a b)
    (w1 : SIt ka s.heap j1 t1 n1) (w2 : SIt kb s.heap j2 t2 n2) (e1 : SSq ka s.heap t1 us) (e2 : SSq kb s.heap t2 ws) (stp : us[n1]? = none ∨ ws[n2]? = none)
    (bad : ∀ h' e, (∀ c o, c ≠ zz → c ≠ pO → c ≠ j1 → c ≠ j2 → s.heap.get? c = some o → h'.get? c = some o) → (∃ o, h'.get? e = some o ∧ o.cls = .type "StopIteration") → E (.ref e) { s with heap := h' }) :
    wpAny (model prog w) A (Builtin.«zip.__next__» ⟨[.ref zz], []⟩) Q E s := by
  show wpAny _ _ (field (.ref zz) 2 >>= _) _ _ _
  refine wpAny_bind (wpAny_field qz rfl (x := .bool false) rfl ?_)
  show wpAny _ _ (field (.ref zz) 3 >>= _) _ _ _
  refine wpAny_bind (wpAny_field qz rfl (x := .ref pI) rfl ?_)
  refine wpAny_bind (wpAny_seqItems qI rfl ?_)
  show wpAny _ _ (Builtin.SmallTypes.ownedTupleIsFree (.ref zz) >>= _) _ _ _
  refine wpAny_bind ?_
  unfold Builtin.SmallTypes.ownedTupleIsFree
  refine wpAny_bind (wpAny_field qz rfl (x := .none) rfl (wpAny_pure ?_))
  simp only [if_true]
  refine wpAny_bind (wpAny_rule ?_)
  refine wpAny_bind (wpAny_field qz rfl (x := .ref pO) rfl ?_)
  refine wpAny_bind (wpAny_setField_rec qz (by simp) fun m₁ qz₁ sb₁ => ?_)
  replace qz₁ : IsZip m₁ zz pI pO .ellipsis := qz₁
  refine wpAny_bind ?_
  simp only [List.forIn_cons, List.forIn_nil, List.zipIdx_nil, List.zipIdx_cons]
  refine wpAny_bind (wpAny_bind (wpAny_onRaise ?_))
  show wpAny _ _ (Builtin.SmallTypes.nextOf (.ref j1) >>= _) _ _ _
  cases gx : us[n1]? with
  | none =>
    refine wpAny_bind (it_end nh (w1.extBut sb₁.extBut ap.i1z) (e1.extBut sb₁.extBut ap.l1z) gx fun m₂ e sb₂ ez => ?_)
    obtain ⟨oz, az, cz⟩ := ez
    have qz₂ : IsZip m₂ zz pI pO .ellipsis := sb₂ _ _ ap.i1z.symm qz₁
    have nz : e ≠ zz := fun x => by subst x; rw [qz₂] at az; cases az; simp at cz
    refine wpAny_setField_rec qz₂ (by simp) fun m₃ _ sb₃ => bad m₃ e (fun c o c1 _ c3 _ x => sb₃.extBut _ _ c1 (sb₂ _ _ c3 (sb₁.extBut _ _ c1 x))) ⟨oz, sb₃.extBut _ _ nz az, cz⟩
  | some x =>
    have gy : ws[n2]? = none := by rcases stp with h | h; rw [gx] at h; cases h; exact h
    refine wpAny_bind (it_item (w1.extBut sb₁.extBut ap.i1z) (e1.extBut sb₁.extBut ap.l1z) gx fun m₂ w1₂ sb₂ => wpAny_pure ?_)
    have qO₂ : IsPair m₂ pO a b := sb₂.extBut _ _ ap.TOi1 (sb₁.extBut _ _ ap.TOz qO)
    refine wpAny_bind (wpAny_seqItems qO₂ rfl ?_)
    refine wpAny_bind (wpAny_updateSeq_pair qO₂ fun m₃ qO₃ sb₃ => ?_)
    refine wpAny_bind (wpAny_letGo (wpAny_pure ?_))
    refine wpAny_bind (wpAny_bind (wpAny_onRaise ?_))
    show wpAny _ _ (Builtin.SmallTypes.nextOf (.ref j2) >>= _) _ _ _
    refine wpAny_bind (it_end nh (((w2.extBut sb₁.extBut ap.i2z).extBut sb₂.extBut ap.i12.symm).extBut sb₃.extBut ap.TOi2.symm)
      (((e2.extBut sb₁.extBut ap.l2z).extBut sb₂.extBut ap.l2i1).extBut sb₃.extBut ap.l2TO) gy fun m₄ e sb₄ ez => ?_)
    obtain ⟨oz, az, cz⟩ := ez
    have qz₄ : IsZip m₄ zz pI pO .ellipsis := sb₄ _ _ ap.i2z.symm (sb₃.extBut _ _ ap.TOz.symm (sb₂.extBut _ _ ap.i1z.symm qz₁))
    have nz : e ≠ zz := fun x => by subst x; rw [qz₄] at az; cases az; simp at cz
    refine wpAny_setField_rec qz₄ (by simp) fun m₅ _ sb₅ => bad m₅ e (fun c o c1 c2 c3 c4 x => sb₅.extBut _ _ c1 (sb₄ _ _ c4 (sb₃.extBut _ _ c2 (sb₂.extBut _ _ c3 (sb₁.extBut _ _ c1 x))))) ⟨oz, sb₅.extBut _ _ nz az, cz⟩

theorem zm_py_item {ka kb : Bool} {zz pI pO j1 j2 t1 t2 : Addr} {n1 n2 : Nat} {us ws : Array Value} {x y a b : Value} {Q : Option Value → Shared → Prop} (ap : ZipApart zz pI pO j1 j2 t1 t2)
    (qz : IsZip s.heap zz pI pO .none) (qI : IsPair s.heap pI (.ref j1) (.ref j2)) (qO : IsPair s.heap pO a b)
    (w1 : SIt ka s.heap j1 t1 n1) (w2 : SIt kb s.heap j2 t2 n2) (e1 : SSq ka s.heap t1 us) (e2 : SSq kb s.heap t2 ws) (gx : us[n1]? = some x) (gy : ws[n2]? = some y)
    (fin : ∀ h', IsZip h' zz pI pO (rawInt s.heap.objs.size) → IsPair h' pO x y → SIt ka h' j1 t1 (n1 + 1) → SIt kb h' j2 t2 (n2 + 1) → IsPair h' s.heap.objs.size x y → h'.objs.size = s.heap.objs.size + 1 →
      (∀ c o, c ≠ zz → c ≠ pO → c ≠ j1 → c ≠ j2 → s.heap.get? c = some o → h'.get? c = some o) → Q (some (.ref s.heap.objs.size)) { s with heap := h' }) :
    wpAny (model prog w) A (pyNext (.ref zz)) Q E s := by
  have tz : s.TypeIs (.ref zz) "zip" := ⟨_, qz, rfl⟩
  unfold pyNext
  exact wpAny_bind (wpAny_attempt (wpAny_callSpecial?_slot (name := Str.ofString "__next__") tz F.slot_zip_next
    (wpAny_call_entry F.slot_zip_next tz F.entry_zip_next
      (zm_next_item ap qz qI qO w1 w2 e1 e2 gx gy fun h' a1 a2 a3 a4 a5 a6 a7 => wpAny_pure (fin h' a1 a2 a3 a4 a5 a6 a7)) (F.args_zip_next_1 _))))

theorem zm_py_end {ka kb : Bool} {zz pI pO j1 j2 t1 t2 : Addr} {n1 n2 : Nat} {us ws : Array Value} {a b : Value} {Q : Option Value → Shared → Prop} (nh : A.handled = none) (ap : ZipApart zz pI pO j1 j2 t1 t2)
    (qz : IsZip s.heap zz pI pO .none) (qI : IsPair s.heap pI (.ref j1) (.ref j2)) (qO : IsPair s.heap pO a b)
    (w1 : SIt ka s.heap j1 t1 n1) (w2 : SIt kb s.heap j2 t2 n2) (e1 : SSq ka s.heap t1 us) (e2 : SSq kb s.heap t2 ws) (stp : us[n1]? = none ∨ ws[n2]? = none)
    (fin : ∀ h', (∀ c o, c ≠ zz → c ≠ pO → c ≠ j1 → c ≠ j2 → s.heap.get? c = some o → h'.get? c = some o) → Q none { s with heap := h' }) : wpAny (model prog w) A (pyNext (.ref zz)) Q E s := by
  have tz : s.TypeIs (.ref zz) "zip" := ⟨_, qz, rfl⟩
  unfold pyNext
  refine wpAny_bind (wpAny_attempt (wpAny_callSpecial?_slot (name := Str.ofString "__next__") tz F.slot_zip_next
    (wpAny_call_entry F.slot_zip_next tz F.entry_zip_next (zm_next_end nh ap qz qI qO w1 w2 e1 e2 stp fun h' e hk ez => ?_) (F.args_zip_next_1 _))))
  obtain ⟨o, ho, hc⟩ := ez
  refine wpAny_bind (wpAny_isInstance (T := "StopIteration") (b := true) ⟨o, ho, hc⟩ isSubtype_stop ?_)
  exact wpAny_pure (fin _ hk)
end
/-- the object of an iterator at its start -/
abbrev itO (k : Bool) (l : Addr) : Obj := { cls := .type (match k with | true => "tuple_iterator" | false => "list_iterator"), data := .fields #[.ref l, .int 0 0] }
abbrev g1 (ka : Bool) (h : Heap) (a : Addr) : Heap := h.push (itO ka a)
abbrev g2 (ka kb : Bool) (h : Heap) (a b : Addr) : Heap := (g1 ka h a).push (itO kb b)
abbrev g3 (ka kb : Bool) (h : Heap) (a b : Addr) : Heap := (g2 ka kb h a b).push { cls := .type "tuple", data := .seq #[.ref h.objs.size, .ref (g1 ka h a).objs.size] }
abbrev g4 (ka kb : Bool) (h : Heap) (a b : Addr) : Heap := (g3 ka kb h a b).push { cls := .type "tuple", data := .seq #[.none, .none] }
abbrev g5 (ka kb : Bool) (h : Heap) (a b : Addr) : Heap := (g4 ka kb h a b).push { cls := .type "zip", data := .fields #[.none, .bool false, .bool false, .ref (g2 ka kb h a b).objs.size, .ref (g3 ka kb h a b).objs.size] }
theorem zm_newLT (a b : Addr) (us ws : Array Value) : Meets (Builtin.«zip.__new__» ⟨[.type "zip", .ref a, .ref b], []⟩) (fun _ R s => s.heap.IsList a us ∧ s.heap.IsTuple b ws ∧ R (.ok (.ret (.ref (g4 false true s.heap a b).objs.size))) { s with heap := g5 false true s.heap a b }) :=
  .of_wp fun prog w A R s z => by
    obtain ⟨hp, g, d, tk, os⟩ := s
    obtain ⟨x1, x2, z⟩ := z
    have sub := sub_zip
    have y1 : Heap.IsList (Shared.heap ⟨hp, g, d, tk, os⟩) a us := x1
    have y2 : Heap.IsTuple (Shared.heap ⟨hp.push { cls := .type "list_iterator", data := .fields #[.ref a, .int 0 0] }, g, d, tk, os⟩) b ws := Heap.IsTuple.push x2 _
    wp_walk using wpAny_pyIter_list y1, wpAny_pyIter_tuple y2
    exact ⟨_, rfl, z⟩
theorem zm_newTL (a b : Addr) (us ws : Array Value) : Meets (Builtin.«zip.__new__» ⟨[.type "zip", .ref a, .ref b], []⟩) (fun _ R s => s.heap.IsTuple a us ∧ s.heap.IsList b ws ∧ R (.ok (.ret (.ref (g4 true false s.heap a b).objs.size))) { s with heap := g5 true false s.heap a b }) :=
  .of_wp fun prog w A R s z => by
    obtain ⟨hp, g, d, tk, os⟩ := s
    obtain ⟨x1, x2, z⟩ := z
    have sub := sub_zip
    have y1 : Heap.IsTuple (Shared.heap ⟨hp, g, d, tk, os⟩) a us := x1
    have y2 : Heap.IsList (Shared.heap ⟨hp.push { cls := .type "tuple_iterator", data := .fields #[.ref a, .int 0 0] }, g, d, tk, os⟩) b ws := Heap.IsList.push x2 _
    wp_walk using wpAny_pyIter_tuple y1, wpAny_pyIter_list y2
    exact ⟨_, rfl, z⟩
theorem it0 (k : Bool) {h : Heap} {c l : Addr} (e : h.get? c = some (itO k l)) : SIt k h c l 0 := by
  cases k
  · exact ⟨_, e, rfl, rfl⟩
  · exact ⟨_, e, rfl, rfl⟩
section
variable {prog : Program} {w : World} {A : Around} {E : Value → Shared → Prop} {s : Shared}
theorem g_at (ka kb : Bool) (h : Heap) (a b : Addr) : (g4 ka kb h a b).objs.size = h.objs.size + 4 ∧ IsZip (g5 ka kb h a b) (h.objs.size + 4) (h.objs.size + 2) (h.objs.size + 3) .none ∧ IsPair (g5 ka kb h a b) (h.objs.size + 2) (.ref h.objs.size) (.ref (h.objs.size + 1)) ∧
    IsPair (g5 ka kb h a b) (h.objs.size + 3) .none .none ∧ SIt ka (g5 ka kb h a b) h.objs.size a 0 ∧ SIt kb (g5 ka kb h a b) (h.objs.size + 1) b 0 ∧ ∀ c o, h.get? c = some o → (g5 ka kb h a b).get? c = some o := by
  have s1 : (g1 ka h a).objs.size = h.objs.size + 1 := Heap.size_push ..
  have s2 : (g2 ka kb h a b).objs.size = h.objs.size + 2 := by rw [Heap.size_push, s1]
  have s3 : (g3 ka kb h a b).objs.size = h.objs.size + 3 := by rw [Heap.size_push, s2]
  have s4 : (g4 ka kb h a b).objs.size = h.objs.size + 4 := by rw [Heap.size_push, s3]
  have t5 : (g5 ka kb h a b).get? (g4 ka kb h a b).objs.size = some _ := Heap.get?_push_size _ rfl
  have t4 : (g5 ka kb h a b).get? (g3 ka kb h a b).objs.size = some _ := Heap.get?_push_of_some _ (Heap.get?_push_size _ rfl)
  have t3 : (g5 ka kb h a b).get? (g2 ka kb h a b).objs.size = some _ := Heap.get?_push_of_some _ (Heap.get?_push_of_some _ (Heap.get?_push_size _ rfl))
  have t2 : (g5 ka kb h a b).get? (g1 ka h a).objs.size = some (itO kb b) := Heap.get?_push_of_some _ (Heap.get?_push_of_some _ (Heap.get?_push_of_some _ (Heap.get?_push_size _ (by cases kb <;> rfl))))
  have t1 : (g5 ka kb h a b).get? h.objs.size = some (itO ka a) := Heap.get?_push_of_some _ (Heap.get?_push_of_some _ (Heap.get?_push_of_some _ (Heap.get?_push_of_some _ (Heap.get?_push_size _ (by cases ka <;> rfl)))))
  rw [s2, s3, s4] at t5
  rw [s1, s2] at t3
  rw [s3] at t4
  rw [s1] at t2
  exact ⟨s4, t5, t3, t4, it0 ka t1, it0 kb t2, fun c o e => Heap.get?_push_of_some _ (Heap.get?_push_of_some _ (Heap.get?_push_of_some _ (Heap.get?_push_of_some _ (Heap.get?_push_of_some _ e))))⟩
theorem zm_callLT {a b : Addr} {us ws : Array Value} {Q : Value → Shared → Prop} (x1 : s.heap.IsList a us) (x2 : s.heap.IsTuple b ws) (f : Q (.ref (s.heap.objs.size + 4)) { s with heap := g5 false true s.heap a b }) : wpAny (model prog w) A (call (.type "zip") [.ref a, .ref b]) Q E s := by
  have g := g_at false true s.heap a b
  refine callType_new F.called_zip (by decide) (F.typeCall_zip_2 _ _) (F.newCall_zip_2 _ _) (fun obj => F.args_object_init_3 obj _ _) F.entry_zip_new (zm_newLT a b us ws) ⟨x1, x2, ?_⟩
  rw [g.1]
  exact ⟨⟨_, g.2.1, rfl⟩, f⟩
theorem zm_callTL {a b : Addr} {us ws : Array Value} {Q : Value → Shared → Prop} (x1 : s.heap.IsTuple a us) (x2 : s.heap.IsList b ws) (f : Q (.ref (s.heap.objs.size + 4)) { s with heap := g5 true false s.heap a b }) : wpAny (model prog w) A (call (.type "zip") [.ref a, .ref b]) Q E s := by
  have g := g_at true false s.heap a b
  refine callType_new F.called_zip (by decide) (F.typeCall_zip_2 _ _) (F.newCall_zip_2 _ _) (fun obj => F.args_object_init_3 obj _ _) F.entry_zip_new (zm_newTL a b us ws) ⟨x1, x2, ?_⟩
  rw [g.1]
  exact ⟨⟨_, g.2.1, rfl⟩, f⟩
end
def Sq (k : Bool) (K : PySem.W.Frag) (H : Hp) (a : Addr) (us : List V) : Prop := match k with
  | true => SqT K H a us
  | false => SqL K H a us
theorem Sq.read {k : Bool} {X : Cx} {pins : List (Addr × Obj)} {σ : St} {H : Hp} {s : Shared} {a : Addr} {us : List V} (I : Inv X pins σ H s) (x : Sq k X.K H a us) : ∃ its : List Value, Vals us its ∧ SSq k s.heap a its.toArray ∧ us.length ≤ sizeLine := by
  cases k
  · obtain ⟨its, r, p, z⟩ := I.list x
    exact ⟨its, r, p.isList, z⟩
  · obtain ⟨its, r, p, z⟩ := I.tuple x
    exact ⟨its, r, p, z⟩
theorem Sq.inj {k : Bool} {X : Cx} {pins : List (Addr × Obj)} {σ : St} {H : Hp} {s : Shared} {a : Addr} {us ws : List V} (I : Inv X pins σ H s) (x : Sq k X.K H a us) (y : Sq k X.K H a ws) : us = ws := by
  cases k
  · exact I.list_inj x y
  · exact I.tuple_inj x y
def ItM (ka kb : Bool) (K : PySem.W.Frag) (a b : Addr) : It :=
  ⟨fun i H => ∃ (us ws : List V) (x y : V), Sq ka K H a us ∧ Sq kb K H b ws ∧ us[i]? = some x ∧ ws[i]? = some y,
    fun i H v H' => ∃ T x y, v = .ref T ∧ H T = none ∧ H' = upd H T (.tup [x, y]) ∧ (∀ us, Sq ka K H a us → us[i]? = some x) ∧ ∀ ws, Sq kb K H b ws → ws[i]? = some y,
    fun i H => ∃ us ws : List V, Sq ka K H a us ∧ Sq kb K H b ws ∧ (us.length ≤ i ∨ ws.length ≤ i)⟩
theorem turn_zm {ka kb : Bool} {P : Program} {w : World} {K : PySem.W.Frag} {elts : List Expr} {kk : Nat} {tpos : Pos} {a b zz pI pO j1 j2 : Addr} (ap : ZipApart zz pI pO j1 j2 a b) :
    Turn P w K (.Tuple elts kk tpos) (ItM ka kb K a b) [zz, pI, pO, j1, j2] zz (fun i h => IsZip h zz pI pO .none ∧ IsPair h pI (.ref j1) (.ref j2) ∧ (∃ x y, IsPair h pO x y) ∧ SIt ka h j1 a i ∧ SIt kb h j2 b i) where
  mem := by simp
  obj := fun i h st c hc => by
    obtain ⟨qz, qI, ⟨x, y, qO⟩, r1, r2⟩ := st
    obtain ⟨o1, e1, d1⟩ := SIt.obj r1
    obtain ⟨o2, e2, d2⟩ := SIt.obj r2
    have ee : c = zz ∨ c = pI ∨ c = pO ∨ c = j1 ∨ c = j2 := by simpa using hc
    rcases ee with q | q | q | q | q
    · rw [q]; exact ⟨_, qz, fun v q => nomatch q⟩
    · rw [q]; exact ⟨_, qI, fun v q => nomatch q⟩
    · rw [q]; exact ⟨_, qO, fun v q => nomatch q⟩
    · rw [q]; exact ⟨o1, e1, d1⟩
    · rw [q]; exact ⟨o2, e2, d2⟩
  keep := fun i h h' st k => by
    obtain ⟨qz, qI, ⟨x, y, qO⟩, w1, w2⟩ := st
    exact ⟨k zz (by simp) _ qz, k pI (by simp) _ qI, ⟨x, y, k pO (by simp) _ qO⟩, SIt.at w1 fun o q => k j1 (by simp) o q, SIt.at w2 fun o q => k j2 (by simp) o q⟩
  item := by
    intro X hP hw hK hc i pins s σ H E I hf st hg
    subst hP hw hK
    obtain ⟨qz, qI, ⟨x0, y0, qO⟩, w1, w2⟩ := st
    obtain ⟨us, ws, x, y, hqx, hqy, gx, gy⟩ := hg
    obtain ⟨its, rv, p, _⟩ := Sq.read I hqx
    obtain ⟨its2, rv2, p2, _⟩ := Sq.read I hqy
    obtain ⟨u, hu, ru⟩ := rv.get gx
    obtain ⟨u2, hu2, ru2⟩ := rv2.get gy
    have hzl : zz < s.heap.objs.size := Heap.lt_size qz
    refine zm_py_item ap qz qI qO w1 w2 p p2 (x := u) (y := u2) (by simpa using hu) (by simpa using hu2) fun h' z' TO' h1' h2' tz same hk => ?_
    refine ⟨_, rfl, wpAny_letOwnedTupleGo_zip (s := { s with heap := h' }) z' fun h'' z'' sb => ?_⟩
    have hT2 : h''.get? s.heap.objs.size = some { cls := .type "tuple", data := .seq #[u, u2] } := (sb.2 _ (Nat.ne_of_gt hzl)).trans tz
    have new : ObjOk X.prog X.w (upd H s.heap.objs.size (.tup [x, y])) h'' s.heap.objs.size (.tup [x, y]) :=
      ⟨by show 2 ≤ sizeLine; decide, [u, u2], .cons ru (.cons ru2 .nil), ⟨_, hT2, rfl, _, rfl⟩⟩
    have I1 : Inv X pins σ (upd H s.heap.objs.size (.tup [x, y])) { s with heap := h'' } :=
      I.turnedNew (t' := s.toks) (ch := [zz, pI, pO, j1, j2]) (fun c o hb q => (sb.2 c (fun q' => hb (by simp [q']))).trans (hk c o (fun q' => hb (by simp [q'])) (fun q' => hb (by simp [q'])) (fun q' => hb (by simp [q'])) (fun q' => hb (by simp [q'])) q)) hf (Nat.le_refl _) new
    refine ⟨.ref s.heap.objs.size, _, I1, rfl, ⟨_, x, y, rfl, I.hok.fresh (Nat.le_refl _), rfl, fun l hl => by rw [Sq.inj I hl hqx]; exact gx, fun l hl => by rw [Sq.inj I hl hqy]; exact gy⟩, ⟨z'', ?_, ⟨u, u2, ?_⟩, ?_, ?_⟩, fun c hcm => ?_⟩
    · exact (sb.2 _ ap.TIz).trans (hk _ _ ap.TIz ap.TITO ap.TIi1 ap.TIi2 qI)
    · exact (sb.2 _ ap.TOz).trans TO'
    · exact SIt.at h1' fun o q => (sb.2 _ ap.i1z).trans q
    · exact SIt.at h2' fun o q => (sb.2 _ ap.i2z).trans q
    · have hlt : c < s.heap.objs.size := by
        have ee : c = zz ∨ c = pI ∨ c = pO ∨ c = j1 ∨ c = j2 := by simpa using hcm
        rcases ee with q | q | q | q | q
        · rw [q]; exact hzl
        · rw [q]; exact Heap.lt_size qI
        · rw [q]; exact Heap.lt_size qO
        · rw [q]; obtain ⟨_, e1, _⟩ := SIt.obj w1; exact Heap.lt_size e1
        · rw [q]; obtain ⟨_, e2, _⟩ := SIt.obj w2; exact Heap.lt_size e2
      rw [upd_ne (Nat.ne_of_lt hlt)]
      exact (hf c hcm).1
  done := by
    intro X hP hw hK hc i pins s σ H E I hf st hg
    subst hP hw hK
    obtain ⟨qz, qI, ⟨x0, y0, qO⟩, w1, w2⟩ := st
    obtain ⟨us, ws, hqx, hqy, stp⟩ := hg
    obtain ⟨its, rv, p, _⟩ := Sq.read I hqx
    obtain ⟨its2, rv2, p2, _⟩ := Sq.read I hqy
    have t1 := rv.length
    have t2 := rv2.length
    have ez : its.toArray[i]? = none ∨ its2.toArray[i]? = none := by
      rcases stp with q | q
      · exact .inl (by simp; omega)
      · exact .inr (by simp; omega)
    exact zm_py_end (I.ok.hd hc) ap qz qI qO w1 w2 p p2 ez fun h' hk => ⟨rfl, I.turnedL (t' := s.toks) (ch := [zz, pI, pO, j1, j2]) (fun c o hb q =>
      hk c o (fun q' => hb (by simp [q'])) (fun q' => hb (by simp [q'])) (fun q' => hb (by simp [q'])) (fun q' => hb (by simp [q'])) q) hf⟩
  self := fun A i s Q E st h => wpAny_pyIter_zip st.1 h

/-- zip(a, b), a list and a tuple in whichever order -/
def iZipM (K : PySem.W.Frag) (ta : TA) : TI := fun σ H R => ta σ H fun vs H1 => ∃ a b us ws, vs = [.ref a, .ref b] ∧ ((SqL K H1 a us ∧ SqT K H1 b ws ∧ R (ItM false true K a b) H1) ∨ (SqT K H1 a us ∧ SqL K H1 b ws ∧ R (ItM true false K a b) H1))
theorem pi_zipM {X : Cx} {e e2 : Expr} {ta : TA} {p pos tpos : Pos} {elts : List Expr} {kk : Nat} (gl : Gl X ("zip" : Str)) (no : X.mg ("zip" : Str) = none) (ar : PA X [e, e2] ta) (st : starEach [e, e2] X.env = (false, eval e X.env) :: starEach [e2] X.env) (pl : (backTo pos (starEach [e2] X.env)).any (·.1) = false) :
    PI X (.Tuple elts kk tpos) (.Call (.Name ("zip" : Str) p) [e, e2] [] pos) (iZipM X.K ta) := by
  refine ⟨fun pins s σ H R I z => ?_⟩
  refine PyProof.Rows.Call_ (ld_blt I gl no PyProof.Rows.boot_zip (PyProof.Rows.callWith_type1 (thn (ar.run pos pins s σ H _ I z) fun us s1 ⟨vs, H1, J, rv, q⟩ => ?_) st pl))
  obtain ⟨a, b, xs, ys, ex, q⟩ := q
  subst ex
  cases rv with
  | cons ra rt =>
  cases rt with
  | cons rb rt =>
    cases rt
    cases ra
    cases rb
    have new : ∀ c, c ∈ [s1.heap.objs.size + 4, s1.heap.objs.size + 2, s1.heap.objs.size + 3, s1.heap.objs.size, s1.heap.objs.size + 1] → FpOk X pins H1 c := fun c hc => by
      have le : s1.heap.objs.size ≤ c := by
        simp only [List.mem_cons, List.not_mem_nil, or_false] at hc
        omega
      exact J.fpOk le (J.hok.fresh le)
    rcases q with ⟨qa, qb, r⟩ | ⟨qa, qb, r⟩
    · obtain ⟨i1, _, p1, _⟩ := J.list qa
      obtain ⟨i2, _, p2, _⟩ := J.tuple qb
      have g := g_at false true s1.heap a b
      refine zm_callLT p1.isList (show s1.heap.IsTuple b i2.toArray from p2) (wpAny_pyIter_zip g.2.1 ?_)
      have J2 : Inv X pins σ H1 { s1 with heap := g5 false true s1.heap a b } := J.kept (t' := s1.toks) g.2.2.2.2.2.2
      exact ⟨s1.heap.objs.size + 4, [s1.heap.objs.size + 4, s1.heap.objs.size + 2, s1.heap.objs.size + 3, s1.heap.objs.size, s1.heap.objs.size + 1], _, _, H1, rfl, J2, turn_zm (ka := false) (kb := true) (PySem.W.ktu_apart s1.heap.objs.size a b (SSq.lt (k := false) p1.isList) (SSq.lt (k := true) p2)), ⟨g.2.1, g.2.2.1, ⟨_, _, g.2.2.2.1⟩, g.2.2.2.2.1, g.2.2.2.2.2.1⟩, new, r⟩
    · obtain ⟨i1, _, p1, _⟩ := J.tuple qa
      obtain ⟨i2, _, p2, _⟩ := J.list qb
      have g := g_at true false s1.heap a b
      refine zm_callTL (show s1.heap.IsTuple a i1.toArray from p1) p2.isList (wpAny_pyIter_zip g.2.1 ?_)
      have J2 : Inv X pins σ H1 { s1 with heap := g5 true false s1.heap a b } := J.kept (t' := s1.toks) g.2.2.2.2.2.2
      exact ⟨s1.heap.objs.size + 4, [s1.heap.objs.size + 4, s1.heap.objs.size + 2, s1.heap.objs.size + 3, s1.heap.objs.size, s1.heap.objs.size + 1], _, _, H1, rfl, J2, turn_zm (ka := true) (kb := false) (PySem.W.ktu_apart s1.heap.objs.size a b (SSq.lt (k := true) p1) (SSq.lt (k := false) p2.isList)), ⟨g.2.1, g.2.2.1, ⟨_, _, g.2.2.2.1⟩, g.2.2.2.2.1, g.2.2.2.2.2.1⟩, new, r⟩
end ZM

/-! <, <=, sorted. -/
namespace Dn
open PySem L2
open PySem.W (alike alikeAll dataLt dataLe dataLt_int dataLt_str dataLt_tuple dataLt_all_yes dataLt_all_no dataLt_cons keyToks keyToksAll EachIs TotalLe sort_unique sortLe_total)
open PyProof.Rows (itemOrd listOrd)
mutual
theorem akin_pd : ∀ (x y : PV), akin x y = true → alike (toPD x) (toPD y) = true
  | .int _, y, h => by cases y <;> simp [akin, toPD, alike] at h ⊢
  | .str _, y, h => by cases y <;> simp [akin, toPD, alike] at h ⊢
  | .tup xs, y, h => by
    cases y with
    | tup ys =>
      simp only [akin] at h
      simp only [toPD, alike]
      exact akinL_pd xs ys h
    | _ => simp [akin] at h
  | .non, _, h => by cases h
  | .bl _, _, h => by cases h
  | .lst _, _, h => by cases h
  | .scr _, _, h => by cases h
  | .dic _ _, _, h => by cases h
  | .ref _, _, h => by cases h
theorem akinL_pd : ∀ (x y : List PV), akinL x y = true → alikeAll (toPDs x) (toPDs y) = true
  | [], y, _ => by simp [toPDs, alikeAll]
  | x :: xs, [], _ => by simp [toPDs, alikeAll]
  | x :: xs, y :: ys, h => by
    simp only [akinL, Bool.and_eq_true] at h
    simp only [toPDs, alikeAll, Bool.and_eq_true]
    exact ⟨akin_pd x y h.1, akinL_pd xs ys h.2⟩
end
theorem beq_b (a b : Nat) : a.beq b = true ↔ a = b := ⟨Nat.eq_of_beq_eq_true, fun h => by subst h; exact Nat.beq_refl a⟩
mutual
theorem same_pd : ∀ (x y : PV), akin x y = true → same x y = PyData.eqv (toPD x) (toPD y)
  | .int _, y, h => by cases y <;> simp [akin, toPD, same, PyData.eqv] at h ⊢ <;> (rw [Bool.eq_iff_iff]; simp)
  | .str a, y, h => by
    cases y with
    | str b =>
      simp only [same, toPD, PyData.eqv]
      rw [Bool.eq_iff_iff, sEq_iff, beq_iff_eq]
    | _ => simp [akin] at h
  | .tup xs, y, h => by
    cases y with
    | tup ys =>
      simp only [akin] at h
      simp only [same, toPD, PyData.eqv]
      exact sameL_pd xs ys h
    | _ => simp [akin] at h
  | .non, _, h => by cases h
  | .bl _, _, h => by cases h
  | .lst _, _, h => by cases h
  | .scr _, _, h => by cases h
  | .dic _ _, _, h => by cases h
  | .ref _, _, h => by cases h
theorem sameL_pd : ∀ (x y : List PV), akinL x y = true → sameL x y = PyData.eqvAll (toPDs x) (toPDs y)
  | [], [], _ => by simp [sameL, toPDs, PyData.eqvAll]
  | [], _ :: _, _ => by simp [sameL, toPDs, PyData.eqvAll]
  | x :: xs, [], _ => by simp [sameL, toPDs, PyData.eqvAll]
  | x :: xs, y :: ys, h => by
    simp only [akinL, Bool.and_eq_true] at h
    simp only [sameL, toPDs, PyData.eqvAll]
    rw [same_pd x y h.1, sameL_pd xs ys h.2]
end
theorem sLt_dec : ∀ (a b : List Nat), sLt a b = decide (a < b)
  | [], [] => by simp [sLt]
  | [], _ :: _ => by simp [sLt]
  | _ :: _, [] => by simp [sLt]
  | a :: as, b :: bs => by
    simp only [sLt]
    rw [sLt_dec as bs]
    by_cases e : a = b
    · subst e
      simp [Nat.beq_refl]
    · have : a.beq b = false := by
        cases q : a.beq b
        · rfl
        · exact absurd ((beq_b a b).mp q) e
      rw [this]
      rw [Bool.eq_iff_iff]
      simp [List.cons_lt_cons_iff, e, Nat.blt_eq]
mutual
theorem lt_pd : ∀ (x y : PV), akin x y = true → dataLt (toPD x) (toPD y) = lt x y
  | .int a, y, h => by
    cases y with
    | int b => simp only [toPD, lt, dataLt_int]
    | _ => simp [akin] at h
  | .str a, y, h => by
    cases y with
    | str b => simp only [toPD, lt, dataLt_str, sLt_dec]
    | _ => simp [akin] at h
  | .tup xs, y, h => by
    cases y with
    | tup ys =>
      simp only [akin] at h
      simp only [lt, toPD]
      rw [dataLt_tuple]
      exact ltL_pd xs ys h
    | _ => simp [akin] at h
  | .non, _, h => by cases h
  | .bl _, _, h => by cases h
  | .lst _, _, h => by cases h
  | .scr _, _, h => by cases h
  | .dic _ _, _, h => by cases h
  | .ref _, _, h => by cases h
theorem ltL_pd : ∀ (x y : List PV), akinL x y = true → PyProof.Rows.lexLt itemOrd (keyToksAll (toPDs x)) (keyToksAll (toPDs y)) = ltL x y
  | [], [], _ => by simp [toPDs, ltL, PyProof.Rows.lex_irrefl]
  | [], y :: ys, _ => by simp only [toPDs, ltL, keyToksAll]; rfl
  | x :: xs, [], _ => by simp only [toPDs, ltL, keyToksAll]; rfl
  | x :: xs, y :: ys, h => by
    simp only [akinL, Bool.and_eq_true] at h
    simp only [toPDs, ltL]
    rw [dataLt_cons (akin_pd x y h.1), same_pd x y h.1, ltL_pd xs ys h.2, lt_pd x y h.1]
end
section
variable {Γ : Pg} {n : Nat} {c fa : Nat → Addr} {G : Fr} {N : List Str} {sc : Scope} {X : Cx} {κ : Cn}
variable {a b e d : Expr} {da db dd : DE} {pos p : Pos} {es : List Expr} {ds : DEs}
def rOrd (K : PySem.W.Frag) (m : Nat) (f : PyData → PyData → Bool) : R2 := fun x y H Q => ∃ d e, Dp K H x d ∧ Dp K H y e ∧ alike d e = true ∧ d ≠ .none ∧ d.depth ≤ m ∧ Q (.bl (f d e)) H
theorem op_ltD {m : Nat} (hu : X.A.units + m < cLine) : OpR X (compareOp .Lt) (rOrd X.K m dataLt) := by
  intro pins s σ H x y v u Q I rx ry h
  obtain ⟨d, e, hd, he, al, nn, dp, q⟩ := h
  obtain ⟨as, r1⟩ := Dp.reads I d x v hd rx
  obtain ⟨bs, r2⟩ := Dp.reads I e y u he ry
  have R := PySem.W.rcLt_alike d e X.A s v u as bs r1 r2 al nn (by have : min d.depth e.depth ≤ d.depth := Nat.min_le_left _ _; omega)
  exact R _ _ _ _ ⟨.bl _, H, I, rfl, q⟩
theorem op_leD {m : Nat} (hu : X.A.units + m < cLine) : OpR X (compareOp .LtE) (rOrd X.K m fun d e => !dataLt e d) := by
  intro pins s σ H x y v u Q I rx ry h
  obtain ⟨d, e, hd, he, al, nn, dp, q⟩ := h
  obtain ⟨as, r1⟩ := Dp.reads I d x v hd rx
  obtain ⟨bs, r2⟩ := Dp.reads I e y u he ry
  have R := PySem.W.rcLe_alike d e X.A s v u as bs r1 r2 al nn (by have : min d.depth e.depth ≤ d.depth := Nat.min_le_left _ _; omega)
  exact R _ _ _ _ ⟨.bl _, H, I, rfl, q⟩
mutual
theorem akin_comm : ∀ (x y : PV), akin x y = akin y x
  | .int _, y => by cases y <;> simp [akin]
  | .str _, y => by cases y <;> simp [akin]
  | .tup xs, y => by
    cases y with
    | tup ys => simp only [akin]; exact akinL_comm xs ys
    | _ => simp [akin]
  | .non, y => by cases y <;> simp [akin]
  | .bl _, y => by cases y <;> simp [akin]
  | .lst _, y => by cases y <;> simp [akin]
  | .scr _, y => by cases y <;> simp [akin]
  | .dic _ _, y => by cases y <;> simp [akin]
  | .ref _, y => by cases y <;> simp [akin]
theorem akinL_comm : ∀ (x y : List PV), akinL x y = akinL y x
  | [], [] => rfl
  | [], _ :: _ => by simp [akinL]
  | x :: xs, [] => by simp [akinL]
  | x :: xs, y :: ys => by simp only [akinL]; rw [akin_comm x y, akinL_comm xs ys]
end
theorem o_lt : Op2 Γ N sc (compareOp .Lt) O.lt := fun n c fa G X g => by
  refine ⟨_, op_ltD (m := 64) g.u64, ?_⟩
  intro ρ st H p q v x y Q A rp rq ef k
  unfold O.lt at ef
  split at ef
  · rename_i i j
    cases ef
    rw [rr_int rp, rr_int rq]
    refine ⟨_, _, .int i, .int j, rfl, by simp, by simp [PyData.depth], now A k ?_⟩
    simp only [RV, dataLt_int]
  · rename_i xs ys
    split at ef
    · rename_i hf
      cases ef
      simp only [Bool.and_eq_true] at hf
      have f1 : flat 60 (.tup xs) = true := by simp only [flat]; exact hf.1.1
      have f2 : flat 60 (.tup ys) = true := by simp only [flat]; exact hf.1.2
      have ak : akin (.tup xs) (.tup ys) = true := by simp only [akin]; exact hf.2
      refine ⟨_, _, dp_rr f1 rp, dp_rr f2 rq, akin_pd _ _ ak, by simp [toPD], by have := (shaped_pd 60 _ f1).2; omega, now A k ?_⟩
      simp only [RV, lt_pd _ _ ak, lt]
    · cases ef
  · cases ef
theorem o_le : Op2 Γ N sc (compareOp .LtE) O.le := fun n c fa G X g => by
  refine ⟨_, op_leD (m := 64) g.u64, ?_⟩
  intro ρ st H p q v x y Q A rp rq ef k
  unfold O.le at ef
  split at ef
  · rename_i i j
    cases ef
    rw [rr_int rp, rr_int rq]
    refine ⟨_, _, .int i, .int j, rfl, by simp, by simp [PyData.depth], now A k ?_⟩
    simp only [RV, dataLt_int]
    congr 1
    by_cases h : i ≤ j
    · simp [h, Int.not_lt.mpr h]
    · simp [h, Int.not_le.mp h]
  · rename_i xs ys
    split at ef
    · rename_i hf
      cases ef
      simp only [Bool.and_eq_true] at hf
      have f1 : flat 60 (.tup xs) = true := by simp only [flat]; exact hf.1.1
      have f2 : flat 60 (.tup ys) = true := by simp only [flat]; exact hf.1.2
      have ak : akin (.tup ys) (.tup xs) = true := by simp only [akin]; exact hf.2
      refine ⟨_, _, dp_rr f1 rp, dp_rr f2 rq, akin_pd _ _ (by rw [akin_comm]; exact ak), by simp [toPD], by have := (shaped_pd 60 _ f1).2; omega, now A k ?_⟩
      simp only [RV, lt_pd _ _ ak, lt]
    · cases ef
  · cases ef
/-! ### sorted -/
theorem has_two {s t : Sh} {p : PV} (h : has (.two s t) p = true) : ∃ x y, p = .tup [x, y] ∧ has s x = true ∧ has t y = true := by
  match p, h with
  | .tup [x, y], h => simp only [has, Bool.and_eq_true] at h; exact ⟨x, y, rfl, h⟩
  | .tup [], h => simp [has] at h
  | .tup [_], h => simp [has] at h
  | .tup (_ :: _ :: _ :: _), h => simp [has] at h
theorem has_three {s t u : Sh} {p : PV} (h : has (.three s t u) p = true) : ∃ x y z, p = .tup [x, y, z] ∧ has s x = true ∧ has t y = true ∧ has u z = true := by
  match p, h with
  | .tup [x, y, z], h => simp only [has, Bool.and_eq_true] at h; exact ⟨x, y, z, rfl, h.1.1, h.1.2, h.2⟩
  | .tup [], h => simp [has] at h
  | .tup [_], h => simp [has] at h
  | .tup [_, _], h => simp [has] at h
  | .tup (_ :: _ :: _ :: _ :: _), h => simp [has] at h
theorem has_row {s : Sh} {p : PV} (h : has (.row s) p = true) : ∃ xs, p = .tup xs ∧ hasL s xs = true := by
  cases p <;> simp only [has, Bool.false_eq_true] at h
  exact ⟨_, rfl, h⟩
theorem hasL_mem {s : Sh} : ∀ {xs : List PV}, hasL s xs = true → ∀ x ∈ xs, has s x = true
  | [], _, x, hx => by cases hx
  | y :: ys, h, x, hx => by
    simp only [hasL, Bool.and_eq_true] at h
    rcases List.mem_cons.mp hx with e | e
    · rw [e]; exact h.1
    · exact hasL_mem h.2 x e
theorem akinL_all : ∀ (xs ys : List PV), (∀ x ∈ xs, ∀ y ∈ ys, akin x y = true) → akinL xs ys = true
  | [], _, _ => by simp [akinL]
  | _ :: _, [], _ => by simp [akinL]
  | x :: xs, y :: ys, h => by
    simp only [akinL, Bool.and_eq_true]
    exact ⟨h x List.mem_cons_self y List.mem_cons_self, akinL_all xs ys fun a ha b hb => h a (List.mem_cons_of_mem _ ha) b (List.mem_cons_of_mem _ hb)⟩
theorem has_akin : ∀ (s : Sh) (x y : PV), has s x = true → has s y = true → akin x y = true
  | .int, x, y, h, g => by cases x <;> cases y <;> simp [has, akin] at h g ⊢
  | .str, x, y, h, g => by cases x <;> cases y <;> simp [has, akin] at h g ⊢
  | .row s, x, y, h, g => by
    obtain ⟨xs, rfl, h⟩ := has_row h
    obtain ⟨ys, rfl, g⟩ := has_row g
    simp only [akin]
    exact akinL_all xs ys fun a ha b hb => has_akin s a b (hasL_mem h a ha) (hasL_mem g b hb)
  | .two s t, x, y, h, g => by
    obtain ⟨a, b, rfl, h1, h2⟩ := has_two h
    obtain ⟨c, d, rfl, g1, g2⟩ := has_two g
    simp only [akin, akinL, Bool.and_eq_true]
    exact ⟨has_akin s _ _ h1 g1, has_akin t _ _ h2 g2, trivial⟩
  | .three s t u, x, y, h, g => by
    obtain ⟨a, b, e, rfl, h1, h2, h3⟩ := has_three h
    obtain ⟨c, d, f, rfl, g1, g2, g3⟩ := has_three g
    simp only [akin, akinL, Bool.and_eq_true]
    exact ⟨has_akin s _ _ h1 g1, has_akin t _ _ h2 g2, has_akin u _ _ h3 g3, trivial⟩
theorem dps_all {F : Addr → Prop} {ρ : List Addr} {H : Hp} : ∀ {ps : List PV} {vs : List V}, (∀ p ∈ ps, ∀ v, RV κ F ρ H p v → Dp κ.K H v (toPD p)) → RVs κ F ρ H ps vs → DpAll κ.K H vs (toPDs ps)
  | [], vs, _, r => by simp only [RVs] at r; subst r; exact .nil
  | p :: ps, vs, h, r => by
    simp only [RVs] at r
    obtain ⟨v, t, rfl, r1, r2⟩ := r
    exact .cons (h p List.mem_cons_self v r1) (dps_all (fun q hq => h q (List.mem_cons_of_mem _ hq)) r2)
theorem has_dp {F : Addr → Prop} {ρ : List Addr} {H : Hp} : ∀ (s : Sh) (p : PV) (v : V), has s p = true → RV κ F ρ H p v → Dp κ.K H v (toPD p)
  | .int, p, v, h, r => by cases p <;> simp only [has, Bool.false_eq_true] at h; simp only [RV] at r; subst r; exact .int _
  | .str, p, v, h, r => by cases p <;> simp only [has, Bool.false_eq_true] at h; simp only [RV] at r; subst r; exact .str _
  | .row s, p, v, h, r => by
    obtain ⟨xs, rfl, h⟩ := has_row h
    simp only [RV] at r
    obtain ⟨a, vs, rfl, h1, h2⟩ := r
    exact .tup h1 (dps_all (fun q hq w rw => has_dp s q w (hasL_mem h q hq) rw) h2)
  | .two s t, p, v, h, r => by
    obtain ⟨x, y, rfl, g1, g2⟩ := has_two h
    simp only [RV, RVs] at r
    obtain ⟨a, vs, rfl, h1, v1, t1, rfl, r1, v2, t2, rfl, r2, rfl⟩ := r
    exact .tup h1 (.cons (has_dp s x v1 g1 r1) (.cons (has_dp t y v2 g2 r2) .nil))
  | .three s t u, p, v, h, r => by
    obtain ⟨x, y, z, rfl, g1, g2, g3⟩ := has_three h
    simp only [RV, RVs] at r
    obtain ⟨a, vs, rfl, h1, v1, t1, rfl, r1, v2, t2, rfl, r2, v3, t3, rfl, r3, rfl⟩ := r
    exact .tup h1 (.cons (has_dp s x v1 g1 r1) (.cons (has_dp t y v2 g2 r2) (.cons (has_dp u z v3 g3 r3) .nil)))
theorem depth_all {m : Nat} : ∀ {ps : List PV}, (∀ p ∈ ps, (toPD p).depth ≤ m) → PyData.depthAll (toPDs ps) ≤ m
  | [], _ => by simp [toPDs, PyData.depthAll]
  | p :: ps, h => by
    simp only [toPDs, PyData.depthAll]
    have h1 := h p List.mem_cons_self
    have h2 := depth_all fun q hq => h q (List.mem_cons_of_mem _ hq)
    omega
theorem has_depth : ∀ (s : Sh) (p : PV), has s p = true → (toPD p).depth ≤ s.deep
  | .int, p, h => by cases p <;> simp only [has, Bool.false_eq_true] at h; simp [toPD, PyData.depth, Sh.deep]
  | .str, p, h => by cases p <;> simp only [has, Bool.false_eq_true] at h; simp [toPD, PyData.depth, Sh.deep]
  | .row s, p, h => by
    obtain ⟨xs, rfl, h⟩ := has_row h
    have := depth_all (ps := xs) (m := s.deep) fun q hq => has_depth s q (hasL_mem h q hq)
    simp only [toPD, PyData.depth, Sh.deep]
    omega
  | .two s t, p, h => by
    obtain ⟨x, y, rfl, g1, g2⟩ := has_two h
    have := has_depth s x g1
    have := has_depth t y g2
    simp only [toPD, toPDs, PyData.depth, PyData.depthAll, Sh.deep]
    omega
  | .three s t u, p, h => by
    obtain ⟨x, y, z, rfl, g1, g2, g3⟩ := has_three h
    have := has_depth s x g1
    have := has_depth t y g2
    have := has_depth u z g3
    simp only [toPD, toPDs, PyData.depth, PyData.depthAll, Sh.deep]
    omega
/-! the machine's sorting is stable and in order -/
abbrev leP : PV → PV → Bool := dataLe false toPD
theorem leP_eq (x y : PV) : leP x y = !dataLt (toPD y) (toPD x) := rfl
theorem leP_tot : TotalLe leP := sortLe_total _ _ _
theorem leP_lt {x y : PV} (h : akin y x = true) : leP x y = !lt y x := by rw [leP_eq, lt_pd y x h]
theorem insB_perm (x : PV) : ∀ ys : List PV, (sortP.insB x ys).Perm (x :: ys)
  | [] => .refl _
  | y :: ys => by
    simp only [sortP.insB]
    split
    · exact (List.Perm.cons y (insB_perm x ys)).trans (List.Perm.swap x y ys)
    · exact .refl _
theorem sortP_perm : ∀ xs : List PV, (sortP xs).Perm xs
  | [] => .refl _
  | x :: xs => (insB_perm x _).trans (List.Perm.cons x (sortP_perm xs))
theorem insB_sorted {x : PV} : ∀ {ys : List PV}, (∀ y ∈ ys, akin x y = true) → ys.Pairwise (fun a b => leP a b = true) → (sortP.insB x ys).Pairwise (fun a b => leP a b = true)
  | [], _, _ => List.pairwise_singleton _ _
  | y :: ys, ha, h => by
    simp only [sortP.insB]
    have hx := ha y List.mem_cons_self
    have hx' : akin y x = true := by rw [akin_comm]; exact hx
    obtain ⟨h1, h2⟩ := List.pairwise_cons.mp h
    split
    · rename_i hl
      refine List.pairwise_cons.mpr ⟨fun z hz => ?_, insB_sorted (fun z hz => ha z (List.mem_cons_of_mem _ hz)) h2⟩
      rcases List.mem_cons.mp ((insB_perm x ys).mem_iff.mp hz) with e | e
      · subst e
        rcases leP_tot.total y z with q | q
        · exact q
        · rw [leP_lt hx', hl] at q; cases q
      · exact h1 z e
    · rename_i hl
      have hxy : leP x y = true := by rw [leP_lt hx']; simpa using hl
      refine List.pairwise_cons.mpr ⟨fun z hz => ?_, h⟩
      rcases List.mem_cons.mp hz with e | e
      · rw [e]; exact hxy
      · exact leP_tot.trans x y z hxy (h1 z e)
theorem insB_filter {x : PV} (f : PV → Bool) (hf : ∀ y, akin y x = true → lt y x = true → f x = true → f y = true → False) : ∀ {ys : List PV}, (∀ y ∈ ys, akin y x = true) → (sortP.insB x ys).filter f = (x :: ys).filter f
  | [], _ => rfl
  | y :: ys, ha => by
    simp only [sortP.insB]
    split
    · rename_i hl
      have ih := insB_filter f hf (ys := ys) fun z hz => ha z (List.mem_cons_of_mem _ hz)
      have no := hf y (ha y List.mem_cons_self) hl
      rw [List.filter_cons, ih]
      simp only [List.filter_cons]
      cases q : f x <;> cases r : f y <;> simp
      exact (no q r).elim
    · rfl
theorem sortP_is {s : Sh} {xs : List PV} (h : hasL s xs = true) : sortP xs = xs.mergeSort leP := by
  have key : ∀ ys : List PV, (∀ y ∈ ys, has s y = true) → (sortP ys).Pairwise (fun a b => leP a b = true) ∧ ∀ c, (sortP ys).filter (PySem.W.sameRank leP c) = ys.filter (PySem.W.sameRank leP c) := by
    intro ys
    induction ys with
    | nil => exact fun _ => ⟨List.Pairwise.nil, fun _ => rfl⟩
    | cons y ys ih =>
      intro hy
      obtain ⟨h1, h2⟩ := ih fun z hz => hy z (List.mem_cons_of_mem _ hz)
      have hs : ∀ z ∈ sortP ys, has s z = true := fun z hz => hy z (List.mem_cons_of_mem _ ((sortP_perm ys).mem_iff.mp hz))
      refine ⟨insB_sorted (fun z hz => has_akin s y z (hy y List.mem_cons_self) (hs z hz)) h1, fun c => ?_⟩
      simp only [sortP]
      rw [insB_filter _ (fun z az lz fy fz => ?_) fun z hz => has_akin s z y (hs z hz) (hy y List.mem_cons_self)]
      · rw [List.filter_cons, List.filter_cons, h2 c]
      · unfold PySem.W.sameRank at fy fz
        rw [Bool.and_eq_true] at fy fz
        have q := leP_tot.trans y c z fy.2 fz.1
        rw [leP_lt az, lz] at q
        cases q
  obtain ⟨h1, h2⟩ := key xs (hasL_mem h)
  exact sort_unique leP_tot h1 h2
end
end Dn

/-! sorted(..) of lists, tuples of data. -/
namespace Dn
open PySem L2
open PySem.W (alike alikeAll dataLt dataLe EachIs AllAlike Sortable SortsAt copyHeap sortingHeap copyHeap_at sorting_copy_old list_sort_vals sortVals sortVals_data sortVals_length each_map bound_map sort_maps)
open PyProof.Rows (sortedAll collect_list entry_proto_collect' entry_list_iadd' listItems_at listUpdate_at get?_update_seq seqObj size_push' kind_sorted plain_sorted entry_sorted args_sorted1 args_list_sort slot_list_sort entry_list_sort)
section
variable {prog : Program} {w : World} {A : Around} {E : Value → Shared → Prop} {s : Shared}
theorem collect_tp {l : Addr} {vs : List Value} {Q : List Value → Shared → Prop} (hT : s.heap.IsTuple l vs.toArray) (hz : vs.length ≤ sizeLine)
    (hq : Q vs { s with heap := (s.heap.push (seqObj "list" #[] 0)).update s.heap.objs.size (Obj.mapSeq (· ++ vs.toArray)) }) : wpAny (model prog w) A (collect (.ref l)) Q E s := by
  obtain ⟨ob, e1, e2, m, e3⟩ := id hT
  have e1' : (s.heap.push (seqObj "list" #[] 0)).get? l = some ob := Heap.get?_push_of_some _ e1
  have eN : (s.heap.push (seqObj "list" #[] 0)).get? s.heap.objs.size = some (seqObj "list" #[] 0) := Heap.get?_push_size _ rfl
  unfold collect
  refine wpAny_bind (wpAny_runValue (codeAny_builtin entry_proto_collect' ?_))
  show wpAny _ _ (do
    again (.builtin "list.__iadd__" ⟨[← newList [], .ref l], []⟩)) _ _ s
  refine wpAny_bind (wpAny_newList (wpAny_pure ⟨Code.quiet_builtin _ (by decide +kernel), codeAny_builtin entry_list_iadd' ?_⟩))
  show wpAny _ _ (Builtin.List.listExtendWith (.ref s.heap.objs.size) (.ref l) (.ref s.heap.objs.size)) _ _ { s with heap := s.heap.push (seqObj "list" #[] 0) }
  unfold Builtin.List.listExtendWith
  refine wpAny_bind (wpAny_typeOf (T := "tuple") ⟨ob, e1', e2⟩ ?_)
  have te : (Value.type "tuple" == Value.type "tuple") = true := by rfl
  rw [if_pos (by rw [te]; simp)]
  refine wpAny_bind (listItems_at e1' e3 ?_)
  refine wpAny_bind (listItems_at (n := 0) (xs := #[]) eN rfl ?_)
  rw [if_neg (by simp)]
  refine wpAny_bind (listUpdate_at (n := 0) (xs := #[]) eN rfl ?_ (Nat.zero_le _) (by
    show (#[] ++ vs.toArray).size ≤ sizeLine + 1
    simp only [Array.size_append, List.size_toArray, List.length_nil]
    omega))
  refine wpAny_pure ?_
  show wpAny (model prog w) A (do
      let ob ← load s.heap.objs.size
      match ob.data with
      | .seq ys _ => pure ys.toList
      | _ => unsupported "internal:collect") Q E { s with heap := (s.heap.push (seqObj "list" #[] 0)).update s.heap.objs.size (Obj.mapSeq (· ++ vs.toArray)) }
  refine wpAny_bind (wpAny_load (get?_update_seq eN _) ?_)
  show wpAny _ _ (pure ((#[] : Array Value) ++ vs.toArray).toList) Q E _
  have ev : ((#[] : Array Value) ++ vs.toArray).toList = vs := by simp
  rw [ev]
  exact wpAny_pure hq
/-- sorted of what collects so -/
theorem sorted_col {l : Addr} {vs : List Value} {Q : Value → Shared → Prop} (hz : vs.length ≤ sizeLine) (hc : s.heap.IsList l vs.toArray ∨ s.heap.IsTuple l vs.toArray)
    (hb : ∀ E' : Value → Shared → Prop, wpAny (model prog w) A.in1.in1 (Builtin.«list.sort» ⟨[.ref (s.heap.objs.size + 1)], []⟩) (fun f s' => f = .done (.ret .none) ∧ Q (.ref (s.heap.objs.size + 1)) s') E' { s with heap := copyHeap s.heap vs }) :
    wpAny (model prog w) A (call (.builtin "sorted") [.ref l]) Q E s := by
  refine Calls.call_function_entry kind_sorted plain_sorted entry_sorted (args_sorted1 _) ?_
  unfold Builtin.«sorted»
  refine wpAny_bind (m := checkCount "sorted" 1 1 _) (wpAny_pure ?_)
  have co : ∀ (Q : List Value → Shared → Prop) (A : Around) (E : Value → Shared → Prop), Q vs { s with heap := (s.heap.push (seqObj "list" #[] 0)).update s.heap.objs.size (Obj.mapSeq (· ++ vs.toArray)) } → wpAny (model prog w) A (collect (.ref l)) Q E s := fun Q A E hq => by
    rcases hc with hc | hc
    · exact collect_list hc hq hz
    · exact collect_tp hc hz hq
  refine wpAny_bind (co _ _ _ ?_)
  refine wpAny_bind (wpAny_newList ?_ hz)
  have hsz : ((s.heap.push (seqObj "list" #[] 0)).update s.heap.objs.size (Obj.mapSeq (· ++ vs.toArray))).objs.size = s.heap.objs.size + 1 := by rw [Heap.size_update, size_push']
  show wpAny _ _ _ _ _ { s with heap := copyHeap s.heap vs }
  rw [hsz]
  refine wpAny_bind (wpAny_holding (wpAny_call_entry slot_list_sort ⟨_, copyHeap_at s.heap vs, rfl⟩ entry_list_sort ?k (args_list_sort _)))
  case k =>
    refine wpAny_mono (hb _) (fun f s' hf => ?_) fun _ _ e => e
    obtain ⟨rfl, hq⟩ := hf
    exact ⟨_, rfl, wpAny_pure ⟨_, rfl, hq⟩⟩
theorem sorted_dat {β : Type} {enc : β → PyData} {R : Value → β → Prop} {bs : List β} {l : Addr} {vs : List Value} {Q : Value → Shared → Prop} (hc : s.heap.IsList l vs.toArray ∨ s.heap.IsTuple l vs.toArray) (er0 : EachIs R vs bs)
    (er : EachIs (fun v b => ∃ as, Reads s.heap v (enc b) as) vs bs) (hal : AllAlike (bs.map enc)) (hk : Sortable (bs.map enc)) (hL : bs.length ≤ sizeLine) (hu : ∀ b, b ∈ bs → A.units + 2 + (enc b).depth < cLine)
    (hq : ∀ out, out.length = bs.length → EachIs R out (bs.mergeSort (dataLe false enc)) → Q (.ref (s.heap.objs.size + 1)) { s with heap := sortedAll s.heap vs (List.toArray out) }) : wpAny (model prog w) A (call (.builtin "sorted") [.ref l]) Q E s := by
  have hz : vs.length ≤ sizeLine := by rw [er0.length]; exact hL
  have er' : EachIs (fun v b => ∃ as, Reads (sortingHeap (copyHeap s.heap vs) (s.heap.objs.size + 1) vs) v (enc b) as) vs bs := er.mono fun _ _ ⟨as, r⟩ => ⟨as, PyProof.Rows.Reads.keeps (fun _ _ => sorting_copy_old) r⟩
  have S := SortsAt.data (prog := prog) (w := w) (A := A.in1.in1) (s := { s with heap := sortingHeap (copyHeap s.heap vs) (s.heap.objs.size + 1) vs }) (each_map (R := fun v d => ∃ as, Reads (sortingHeap (copyHeap s.heap vs) (s.heap.objs.size + 1) vs) v d as) enc er') hal hk (bound_map hu)
  refine sorted_col hz hc fun E' => ?_
  refine list_sort_vals (s := { s with heap := copyHeap s.heap vs }) (copyHeap_at s.heap vs) S hz ⟨rfl, ?_⟩
  exact hq _ (by rw [sortVals_length false rfl]; exact er0.length) (sortVals_data false er0 er' hal)
end
section
variable {Γ : Pg} {n : Nat} {c fa : Nat → Addr} {G : Fr} {N : List Str} {sc : Scope} {X : Cx} {κ : Cn} {cs : CS}
variable {a b e d : Expr} {da db dd : DE} {pos p : Pos} {es : List Expr} {ds : DEs}
/-- l: the items, each with the machine's value of it -/
def rSortD (K : PySem.W.Frag) (m : Nat) : List V → Hp → VK → Prop := fun vs H Q => ∃ (a : Addr) (l : List (PV × V)), vs = [.ref a] ∧ (SqL K H a (l.map (·.2)) ∨ SqT K H a (l.map (·.2))) ∧ (∀ b ∈ l, Dp K H b.2 (toPD b.1)) ∧ AllAlike (l.map fun b => toPD b.1) ∧ Sortable (l.map fun b => toPD b.1) ∧
  (∀ b ∈ l, (toPD b.1).depth ≤ m) ∧ ∀ p, H p = none → Q (.ref p) (upd H p (.lst ((l.mergeSort (dataLe false fun b => toPD b.1)).map (·.2))))
theorem each_vals {l : List (PV × V)} : ∀ {us : List Value}, EachIs (fun u (b : PV × V) => RelV b.2 u) us l → Vals (l.map (·.2)) us
  | _, .nil => .nil
  | _, .cons h t => .cons h (each_vals t)
theorem vals_each : ∀ {l : List (PV × V)} {us : List Value}, Vals (l.map (·.2)) us → EachIs (fun u (b : PV × V) => RelV b.2 u ∧ b ∈ l) us l
  | [], _, h => by cases h; exact .nil
  | b :: l, _, h => by
    cases h with
    | cons r t => exact .cons ⟨r, List.mem_cons_self⟩ ((vals_each t).mono fun _ _ q => ⟨q.1, List.mem_cons_of_mem _ q.2⟩)
theorem cr_sortD {m : Nat} (hu : X.A.units + 2 + m < cLine) : CallR X (.builtin "sorted") (rSortD X.K m) := by
  intro pins s σ H vs us Q I r h
  obtain ⟨a, l, rfl, hs, hd, hal, hk, hdp, q⟩ := h
  obtain ⟨u, rfl, ru⟩ := vals1 r
  obtain rfl : u = Value.ref a := ru
  have go : ∀ its : List Value, Vals (l.map (·.2)) its → its.length ≤ sizeLine → (s.heap.IsList a its.toArray ∨ s.heap.IsTuple a its.toArray) → wpAny (model X.prog X.w) X.A (call (.builtin "sorted") [.ref a]) (EP X pins σ Q) X.xe s := fun its rv hz hc => by
    have e0 := vals_each rv
    refine sorted_dat (enc := fun b : PV × V => toPD b.1) (R := fun u b => RelV b.2 u) hc (e0.mono fun _ _ z => z.1) (e0.mono fun u b z => Dp.reads I _ _ _ (hd b z.2) z.1) hal hk (by rw [← e0.length]; exact hz) (fun b hb => by have := hdp b hb; omega) fun out hl eo => ?_
    have ev := each_vals eo
    refine ⟨.ref (s.heap.objs.size + 1), upd H (s.heap.objs.size + 1) (.lst ((l.mergeSort (dataLe false fun b => toPD b.1)).map (·.2))), I.laid (t' := s.toks) (fun b o e => PyProof.Rows.sortedAll_old e) (Nat.le_succ _) ⟨?_, out, ?_⟩, rfl, q _ (I.hok.fresh (Nat.le_succ _))⟩
    · rw [List.length_map, List.length_mergeSort, ← e0.length]
      exact hz
    · obtain ⟨k, hk⟩ := PyProof.Rows.sortedAll_at s.heap its out.toArray
      exact ⟨k, ev, hk⟩
  rcases hs with hs | hs
  · obtain ⟨its, rv, hl, hz⟩ := I.list hs
    exact go its rv (by rw [← rv.length]; exact hz) (.inl hl.isList)
  · obtain ⟨its, rv, hl, hz⟩ := I.tuple hs
    exact go its rv (by rw [← rv.length]; exact hz) (.inr hl)
theorem pair_up {F : Addr → Prop} {ρ : List Addr} {H : Hp} : ∀ {ps : List PV} {vs : List V}, RVs κ F ρ H ps vs → ∃ l : List (PV × V), l.map (·.1) = ps ∧ l.map (·.2) = vs ∧ ∀ b ∈ l, RV κ F ρ H b.1 b.2
  | [], vs, h => by simp only [RVs] at h; subst h; exact ⟨[], rfl, rfl, fun _ z => by cases z⟩
  | p :: ps, vs, h => by
    simp only [RVs] at h
    obtain ⟨v, r, rfl, h1, h2⟩ := h
    obtain ⟨l, rfl, rfl, h3⟩ := pair_up h2
    refine ⟨(p, v) :: l, rfl, rfl, fun b hb => ?_⟩
    rcases List.mem_cons.mp hb with e | e
    · rw [e]; exact h1
    · exact h3 b e
theorem rvs_map {F : Addr → Prop} {ρ : List Addr} {H : Hp} : ∀ {l : List (PV × V)}, (∀ b ∈ l, RV κ F ρ H b.1 b.2) → RVs κ F ρ H (l.map (·.1)) (l.map (·.2))
  | [], _ => RVs.nil
  | b :: l, h => RVs.cons (h b List.mem_cons_self) (rvs_map fun x hx => h x (List.mem_cons_of_mem _ hx))
theorem top_sortable {s : Sh} (ht : s.top = true) {l : List PV} (h : hasL s l = true) : Sortable (l.map toPD) := by
  have hm := hasL_mem h
  have one : ∀ d ∈ l.map toPD, ∃ b, has s b = true ∧ toPD b = d := fun d hd => by
    obtain ⟨b, hb, e⟩ := List.mem_map.mp hd
    exact ⟨b, hm b hb, e⟩
  cases s with
  | int =>
    refine .inr fun d hd => ?_
    obtain ⟨b, hb, rfl⟩ := one d hd
    cases b <;> simp only [has, Bool.false_eq_true] at hb
    simp [toPD]
  | str =>
    refine .inr fun d hd => ?_
    obtain ⟨b, hb, rfl⟩ := one d hd
    cases b <;> simp only [has, Bool.false_eq_true] at hb
    simp [toPD]
  | row t => cases ht
  | two t u =>
    refine .inl fun d hd => ?_
    obtain ⟨b, hb, rfl⟩ := one d hd
    obtain ⟨x, y, rfl, _, _⟩ := has_two hb
    exact ⟨_, _, rfl⟩
  | three t u v =>
    refine .inl fun d hd => ?_
    obtain ⟨b, hb, rfl⟩ := one d hd
    obtain ⟨x, y, z, rfl, _⟩ := has_three hb
    exact ⟨_, _, rfl⟩
theorem top_deep {s : Sh} (ht : s.top = true) : s.deep ≤ 50 := by
  unfold Sh.top at ht
  split at ht
  · cases ht
  · exact Nat.le_of_ble_eq_true ht
theorem o_sorted {sh : Sh} (hx : okB Γ sc ("sorted" : Str) = true) (ha : SE Γ N sc a da) (hst : ∀ env, starEach [a] env = [(false, eval a env)] := by intro _; rfl) : SEF Γ N sc (.Call (.Name ("sorted" : Str) p) [a] [] pos) (D.op1 (O.sorted sh) da) := fun n c fa G X g => by
  obtain ⟨g1, g2, g3, g4⟩ := okB_gl g hx
  refine (pe_callB (cr_sortD (m := 50) (by have := g.u64; omega)) g1 g2 (by decide +kernel) (pa_cons (ha n c fa G X g) pa_nil (hst _)) g3 g4 (hst _) rfl).imp ?_
  rintro σ H Q ⟨ρ, st, σp, A, R, o⟩
  refine tE_bind A R o fun v st1 ρ1 H1 u e1 A1 R1 ru o1 => ?_
  obtain ⟨res, ef, k⟩ := o1.of
  have rp := RR.of A1.wd ru
  obtain ⟨ps, rfl, k2⟩ := k ρ1 H1 Ext.refl A1
  have go : ∀ (xs : List PV) (vs : List V) (t : Addr), (SqL X.K H1 t vs ∨ SqT X.K H1 t vs) → RVs (cnOf X c) (Fo G.B ρ1) ρ1 H1 xs vs → (if sh.top && hasL sh xs && xs.length.ble 1000000 then some (PV.lst (sortP xs)) else none) = some (.lst ps) → rSortD X.K 50 [.ref t] H1 Q := fun xs vs t hs r ef => by
    split at ef
    · rename_i hh
      simp only [Bool.and_eq_true] at hh
      cases ef
      obtain ⟨l, rfl, rfl, hr⟩ := pair_up r
      have hm := hasL_mem hh.1.2
      have hb : ∀ b ∈ l, has sh b.1 = true := fun b hb => hm b.1 (List.mem_map.mpr ⟨b, hb, rfl⟩)
      have e0 : (l.map fun b => toPD b.1) = (l.map (·.1)).map toPD := by rw [List.map_map]; rfl
      refine ⟨t, l, rfl, hs, fun b q => has_dp sh b.1 b.2 (hb b q) (hr b q), ?_, by rw [e0]; exact top_sortable hh.1.1 hh.1.2, fun b q => Nat.le_trans (has_depth sh _ (hb b q)) (top_deep hh.1.1), fun q hq => ?_⟩
      · intro d hd d' hd'
        obtain ⟨x, hx, rfl⟩ := List.mem_map.mp hd
        obtain ⟨y, hy, rfl⟩ := List.mem_map.mp hd'
        exact akin_pd _ _ (has_akin sh _ _ (hb x hx) (hb y hy))
      · refine k2 _ q ?_ hq
        have e1 : (l.mergeSort (dataLe false fun b => toPD b.1)).map (·.1) = sortP (l.map (·.1)) := by
          rw [sortP_is hh.1.2]
          exact sort_maps (s := leP) (fun b : PV × V => b.1) fun _ _ _ _ => rfl
        rw [← e1]
        exact rvs_map fun b hb' => hr b ((List.mergeSort_perm _ _).mem_iff.mp hb')
    · cases ef
  unfold O.sorted at ef
  split at ef
  · rename_i eq
    rw [eq] at rp
    obtain ⟨a', xs, rfl, h1, r1⟩ := rr_lst rp
    exact go _ xs a' (.inl (SqL.of h1)) r1 ef
  · rename_i eq
    rw [eq] at rp
    obtain ⟨a', xs, rfl, h1, r1⟩ := rr_tup rp
    exact go _ xs a' (.inr h1) r1 ef
  · cases ef
theorem lo_sorted {sh : Sh} : LstOnly (D.op1 (O.sorted sh) da) := lo_op1 fun p v h => by
  unfold O.sorted at h
  split at h
  · split at h <;> cases h; exact ⟨_, rfl⟩
  · split at h <;> cases h; exact ⟨_, rfl⟩
  · cases h
end
end Dn

/-! list(zip(a, b)) of two tuples. -/
namespace Dn
open PySem L2
section
variable {prog : Program} {w : World} {A : Around} {E : Value → Shared → Prop} {s : Shared}
/-- what the zip at zz stands on, k pairs are out -/
structure ZOn (h : Heap) (zz pI pO j1 j2 t1 t2 : Addr) (k : Nat) (lo : Addr) : Prop where
  zip : (k = 0 ∧ IsZip h zz pI pO .none ∧ ∃ x y, IsPair h pO x y) ∨ ∃ (T : Addr) (f : Bool) (oT : Obj), IsZipHeld h zz pI pO T f ∧ h.get? T = some oT ∧ lo < T
  ins : IsPair h pI (.ref j1) (.ref j2)
  i1 : h.IsTupleIter j1 t1 k
  i2 : h.IsTupleIter j2 t2 k
  lt : zz ≤ lo ∧ pI ≤ lo ∧ pO ≤ lo ∧ j1 ≤ lo ∧ j2 ≤ lo
theorem next_held {zz pI pO T j1 j2 t1 t2 : Addr} {f : Bool} {oT : Obj} {k1 k2 : Nat} {xs ys : Array Value} {x y : Value} {Q : Value → Shared → Prop} (D : ZipApart zz pI pO j1 j2 t1 t2)
    (hz : IsZipHeld s.heap zz pI pO T f) (eT : s.heap.get? T = some oT) (eI : IsPair s.heap pI (.ref j1) (.ref j2))
    (e1 : s.heap.IsTupleIter j1 t1 k1) (e2 : s.heap.IsTupleIter j2 t2 k2) (el1 : s.heap.IsTuple t1 xs) (el2 : s.heap.IsTuple t2 ys) (hx : xs[k1]? = some x) (hy : ys[k2]? = some y)
    (hQ : ∀ h', IsZipHeld h' zz pI pO T true → h'.IsTupleIter j1 t1 (k1 + 1) → h'.IsTupleIter j2 t2 (k2 + 1) → IsPair h' s.heap.objs.size x y → h'.objs.size = s.heap.objs.size + 1 →
      (∀ c o, c ≠ zz → c ≠ j1 → c ≠ j2 → s.heap.get? c = some o → h'.get? c = some o) → Q (.ref s.heap.objs.size) { s with heap := h' }) :
    wpAny (model prog w) A (Builtin.«zip.__next__» ⟨[.ref zz], []⟩) (fun fin s' => ∃ v, fin = .done (.ret v) ∧ Q v s') E s := by
  show wpAny _ _ (field (.ref zz) 2 >>= _) _ _ _
  refine wpAny_bind (wpAny_field hz rfl (x := Value.bool false) rfl ?_)
  show wpAny _ _ (field (.ref zz) 3 >>= _) _ _ _
  refine wpAny_bind (wpAny_field hz rfl (x := .ref pI) rfl ?_)
  refine wpAny_bind (wpAny_seqItems eI rfl ?_)
  show wpAny _ _ (Builtin.SmallTypes.ownedTupleIsFree (.ref zz) >>= _) _ _ _
  refine wpAny_bind (wpAny_tupleHeld_zip hz eT fun g1 z1 b1 => ?_)
  rw [if_neg Bool.false_ne_true]
  refine wpAny_bind ?_
  rw [← Array.forIn_toList]
  rw [show (#[Value.ref j1, Value.ref j2] : Array Value).toList = [.ref j1, .ref j2] from rfl, List.forIn_cons]
  refine wpAny_bind (wpAny_bind (wpAny_holding ?_))
  show wpAny _ _ (Builtin.SmallTypes.nextOf (.ref j1) >>= _) _ _ _
  refine wpAny_bind (RZ.nextOf_tuple_item (s := { s with heap := g1 }) (e1.extBut b1.extBut D.i1z) (el1.extBut b1.extBut D.l1z) hx fun g2 q2 b2 => wpAny_pure ?_)
  refine wpAny_pure ?_
  show wpAny _ _ (forIn [Value.ref j2] _ _) _ _ _
  rw [List.forIn_cons]
  refine wpAny_bind (wpAny_bind (wpAny_holding ?_))
  show wpAny _ _ (Builtin.SmallTypes.nextOf (.ref j2) >>= _) _ _ _
  refine wpAny_bind (RZ.nextOf_tuple_item (s := { s with heap := g2 }) ((e2.extBut b1.extBut D.i2z).extBut b2.extBut D.i12.symm) ((el2.extBut b1.extBut D.l2z).extBut b2.extBut D.l2i1) hy fun g3 q3 b3 => wpAny_pure ?_)
  refine wpAny_pure ?_
  show wpAny _ _ (forIn ([] : List Value) _ _) _ _ _
  rw [List.forIn_nil]
  refine wpAny_pure ?_
  show wpAny _ _ (newTuple [x, y] >>= _) _ _ _
  refine wpAny_bind (wpAny_newTuple ?_)
  have sz : g3.objs.size = s.heap.objs.size := by rw [b3.1, b2.1, b1.1]
  have z3 : IsZipHeld g3 zz pI pO T true := b3.extBut _ _ D.i2z.symm (b2.extBut _ _ D.i1z.symm z1)
  have kp : ∀ c o, c ≠ zz → c ≠ j1 → c ≠ j2 → s.heap.get? c = some o → g3.get? c = some o := fun c o c1 c2 c3 e => b3.extBut _ _ c3 (b2.extBut _ _ c2 (b1.extBut _ _ c1 e))
  have q1 : g3.IsTupleIter j1 t1 (k1 + 1) := q2.extBut b3.extBut D.i12
  refine wpAny_pure ⟨_, rfl, ?_⟩
  show Q (.ref g3.objs.size) _
  have hp : IsPair (g3.push { cls := .type "tuple", data := .seq #[x, y] }) g3.objs.size x y := Heap.get?_push_size _ rfl
  have hn : (g3.push { cls := .type "tuple", data := .seq #[x, y] }).objs.size = g3.objs.size + 1 := Heap.size_push ..
  rw [sz] at hp hn ⊢
  exact hQ _ (Heap.get?_push_of_some _ z3) (q1.at fun o e => Heap.get?_push_of_some _ e) (q3.at fun o e => Heap.get?_push_of_some _ e) hp hn fun c o c1 c2 c3 e => Heap.get?_push_of_some _ (kp c o c1 c2 c3 e)
theorem end_held {zz pI pO T j1 j2 t1 t2 : Addr} {f : Bool} {oT : Obj} {k1 k2 : Nat} {xs ys : Array Value} {Q : Fin → Shared → Prop} (hh : A.handled = none) (D : ZipApart zz pI pO j1 j2 t1 t2)
    (hz : IsZipHeld s.heap zz pI pO T f) (eT : s.heap.get? T = some oT) (eI : IsPair s.heap pI (.ref j1) (.ref j2))
    (e1 : s.heap.IsTupleIter j1 t1 k1) (e2 : s.heap.IsTupleIter j2 t2 k2) (el1 : s.heap.IsTuple t1 xs) (el2 : s.heap.IsTuple t2 ys) (hend : xs[k1]? = none ∨ ys[k2]? = none)
    (hE : ∀ h' e, (∀ c o, c ≠ zz → c ≠ j1 → c ≠ j2 → s.heap.get? c = some o → h'.get? c = some o) → (∃ o, h'.get? e = some o ∧ o.cls = .type "StopIteration") → E (.ref e) { s with heap := h' }) :
    wpAny (model prog w) A (Builtin.«zip.__next__» ⟨[.ref zz], []⟩) Q E s := by
  show wpAny _ _ (field (.ref zz) 2 >>= _) _ _ _
  refine wpAny_bind (wpAny_field hz rfl (x := Value.bool false) rfl ?_)
  show wpAny _ _ (field (.ref zz) 3 >>= _) _ _ _
  refine wpAny_bind (wpAny_field hz rfl (x := .ref pI) rfl ?_)
  refine wpAny_bind (wpAny_seqItems eI rfl ?_)
  show wpAny _ _ (Builtin.SmallTypes.ownedTupleIsFree (.ref zz) >>= _) _ _ _
  refine wpAny_bind (wpAny_tupleHeld_zip hz eT fun g1 z1 b1 => ?_)
  rw [if_neg Bool.false_ne_true]
  refine wpAny_bind ?_
  rw [← Array.forIn_toList]
  rw [show (#[Value.ref j1, Value.ref j2] : Array Value).toList = [.ref j1, .ref j2] from rfl, List.forIn_cons]
  refine wpAny_bind (wpAny_bind (wpAny_holding ?_))
  show wpAny _ _ (Builtin.SmallTypes.nextOf (.ref j1) >>= _) _ _ _
  cases hx : xs[k1]? with
  | none =>
    refine wpAny_bind (RZ.nextOf_tuple_end (s := { s with heap := g1 }) hh (e1.extBut b1.extBut D.i1z) (el1.extBut b1.extBut D.l1z) hx fun g2 e b2 he => ?_)
    exact hE g2 e (fun c o c1 c2 _ q => b2 _ _ c2 (b1.extBut _ _ c1 q)) he
  | some x =>
    have hy : ys[k2]? = none := hend.resolve_left (by rw [hx]; simp)
    refine wpAny_bind (RZ.nextOf_tuple_item (s := { s with heap := g1 }) (e1.extBut b1.extBut D.i1z) (el1.extBut b1.extBut D.l1z) hx fun g2 q2 b2 => wpAny_pure ?_)
    refine wpAny_pure ?_
    show wpAny _ _ (forIn [Value.ref j2] _ _) _ _ _
    rw [List.forIn_cons]
    refine wpAny_bind (wpAny_bind (wpAny_holding ?_))
    show wpAny _ _ (Builtin.SmallTypes.nextOf (.ref j2) >>= _) _ _ _
    refine wpAny_bind (RZ.nextOf_tuple_end (s := { s with heap := g2 }) hh ((e2.extBut b1.extBut D.i2z).extBut b2.extBut D.i12.symm) ((el2.extBut b1.extBut D.l2z).extBut b2.extBut D.l2i1) hy fun g3 e b3 he => ?_)
    exact hE g3 e (fun c o c1 c2 c3 q => b3 _ _ c3 (b2.extBut _ _ c2 (b1.extBut _ _ c1 q))) he
/-- the next pair -/
theorem zon_item {zz pI pO j1 j2 t1 t2 lo : Addr} {k : Nat} {xs ys : Array Value} {x y : Value} {Q : Option Value → Shared → Prop} (D : ZipApart zz pI pO j1 j2 t1 t2) (Z : ZOn s.heap zz pI pO j1 j2 t1 t2 k lo) (el1 : s.heap.IsTuple t1 xs) (el2 : s.heap.IsTuple t2 ys) (hx : xs[k]? = some x) (hy : ys[k]? = some y) (hlo : lo < s.heap.objs.size)
    (hQ : ∀ h', ZOn h' zz pI pO j1 j2 t1 t2 (k + 1) lo → IsPair h' s.heap.objs.size x y → h'.objs.size = s.heap.objs.size + 1 → (∀ c o, c ≠ zz → c ≠ pO → c ≠ j1 → c ≠ j2 → s.heap.get? c = some o → h'.get? c = some o) → Q (some (.ref s.heap.objs.size)) { s with heap := h' }) :
    wpAny (model prog w) A (pyNext (.ref zz)) Q E s := by
  obtain ⟨l1, l2, l3, l4, l5⟩ := Z.lt
  rcases Z.zip with ⟨e, hz, a, b, hO⟩ | ⟨T, f, oT, hz, eT, hT⟩
  · refine RZ.pyNext_zipT_item D hz Z.ins hO Z.i1 Z.i2 el1 el2 hx hy fun h' z' _ q1 q2 hp hn kp => ?_
    exact hQ h' ⟨.inr ⟨s.heap.objs.size, false, _, z', hp, hlo⟩, kp _ _ D.TIz D.TITO D.TIi1 D.TIi2 Z.ins, q1, q2, Z.lt⟩ hp hn kp
  · have ty : s.TypeIs (.ref zz) "zip" := ⟨_, hz, rfl⟩
    unfold pyNext
    refine wpAny_bind (wpAny_attempt (wpAny_callSpecial?_slot (name := Str.ofString "__next__") ty F.slot_zip_next (wpAny_call_entry F.slot_zip_next ty F.entry_zip_next
      (next_held D hz eT Z.ins Z.i1 Z.i2 el1 el2 hx hy fun h' z' q1 q2 hp hn kp => wpAny_pure ?_) (F.args_zip_next_1 _))))
    refine hQ h' ⟨.inr ⟨T, true, oT, z', kp T oT (Nat.ne_of_gt (Nat.lt_of_le_of_lt l1 hT)) (Nat.ne_of_gt (Nat.lt_of_le_of_lt l4 hT)) (Nat.ne_of_gt (Nat.lt_of_le_of_lt l5 hT)) eT, hT⟩, kp _ _ D.TIz D.TIi1 D.TIi2 Z.ins, q1, q2, Z.lt⟩ hp hn fun c o c1 _ c3 c4 e => kp c o c1 c3 c4 e
theorem zon_end {zz pI pO j1 j2 t1 t2 lo : Addr} {k : Nat} {xs ys : Array Value} {Q : Option Value → Shared → Prop} (hh : A.handled = none) (D : ZipApart zz pI pO j1 j2 t1 t2) (Z : ZOn s.heap zz pI pO j1 j2 t1 t2 k lo) (el1 : s.heap.IsTuple t1 xs) (el2 : s.heap.IsTuple t2 ys) (hend : xs[k]? = none ∨ ys[k]? = none)
    (hQ : ∀ h', (∀ c o, c ≠ zz → c ≠ pO → c ≠ j1 → c ≠ j2 → s.heap.get? c = some o → h'.get? c = some o) → Q none { s with heap := h' }) : wpAny (model prog w) A (pyNext (.ref zz)) Q E s := by
  rcases Z.zip with ⟨e, hz, a, b, hO⟩ | ⟨T, f, oT, hz, eT, hT⟩
  · exact RZ.pyNext_zipT_end hh D hz Z.ins hO Z.i1 Z.i2 el1 el2 hend hQ
  · have ty : s.TypeIs (.ref zz) "zip" := ⟨_, hz, rfl⟩
    unfold pyNext
    refine wpAny_bind (wpAny_attempt (wpAny_callSpecial?_slot (name := Str.ofString "__next__") ty F.slot_zip_next
      (wpAny_call_entry F.slot_zip_next ty F.entry_zip_next (end_held hh D hz eT Z.ins Z.i1 Z.i2 el1 el2 hend fun h' e kp he => ?_) (F.args_zip_next_1 _))))
    obtain ⟨o, ho, hc⟩ := he
    refine wpAny_bind (wpAny_isInstance (T := "StopIteration") (b := true) ⟨o, ho, hc⟩ isSubtype_stop ?_)
    exact wpAny_pure (hQ h' fun c o c1 _ c3 c4 q => kp c o c1 c3 c4 q)
theorem ZOn.keep {h h' : Heap} {zz pI pO j1 j2 t1 t2 lo : Addr} {k : Nat} (Z : ZOn h zz pI pO j1 j2 t1 t2 k lo) {S : Addr} (hS : ∀ b o, b ≠ S → h.get? b = some o → h'.get? b = some o) (hs : S ≠ zz ∧ S ≠ pI ∧ S ≠ pO ∧ S ≠ j1 ∧ S ≠ j2) (hl : S ≤ lo) : ZOn h' zz pI pO j1 j2 t1 t2 k lo := by
  obtain ⟨s1, s2, s3, s4, s5⟩ := hs
  refine ⟨?_, hS _ _ s2.symm Z.ins, Z.i1.at fun o e => hS _ o s4.symm e, Z.i2.at fun o e => hS _ o s5.symm e, Z.lt⟩
  rcases Z.zip with ⟨e, hz, a, b, hO⟩ | ⟨T, f, oT, hz, eT, hT⟩
  · exact .inl ⟨e, hS _ _ s1.symm hz, a, b, hS _ _ s3.symm hO⟩
  · exact .inr ⟨T, f, oT, hS _ _ s1.symm hz, hS _ _ (Nat.ne_of_gt (Nat.lt_of_le_of_lt hl hT)) eT, hT⟩
end
/-! ### the list -/
/-- the addresses as hold the pairs, they rise above lo -/
structure ZOut (ps : List (Value × Value)) (lo : Addr) (h : Heap) (as : List Addr) : Prop where
  rise : as.Pairwise (· < ·)
  above : ∀ a ∈ as, lo < a
  pairs : ∀ (j : Nat) (a : Addr), as[j]? = some a → ∃ x y, ps[j]? = some (x, y) ∧ IsPair h a x y
section
variable {prog : Program} {w : World} {A : Around} {s : Shared} {R : Result → Shared → Prop} {zz pI pO j1 j2 t1 t2 lo : Addr} {xs ys : List Value}
theorem zip_at {xs ys : List Value} {i : Nat} (h : i < (xs.zip ys).length) : ∃ x y, xs[i]? = some x ∧ ys[i]? = some y ∧ (xs.zip ys)[i]? = some (x, y) := by
  rw [List.length_zip] at h
  refine ⟨xs[i], ys[i], by simp, by simp, ?_⟩
  rw [List.getElem?_eq_getElem (by rw [List.length_zip]; exact h), List.getElem_zip]
theorem zip_no {xs ys : List Value} {i : Nat} (h : (xs.zip ys).length ≤ i) : xs.toArray[i]? = none ∨ ys.toArray[i]? = none := by
  rw [List.length_zip] at h
  rcases Nat.lt_or_ge i xs.length with q | q
  · exact .inr (by simp; omega)
  · exact .inl (by simp; omega)
theorem zl_loop {S : Addr} (hh : A.handled = none) (D : ZipApart zz pI pO j1 j2 t1 t2) (hSz : S ≠ zz ∧ S ≠ pI ∧ S ≠ pO ∧ S ≠ j1 ∧ S ≠ j2) (hSt : t1 ≠ S ∧ t2 ≠ S) (ht : t1 ≠ zz ∧ t1 ≠ pO ∧ t1 ≠ j1 ∧ t1 ≠ j2 ∧ t2 ≠ zz ∧ t2 ≠ pO ∧ t2 ≠ j1 ∧ t2 ≠ j2)
    (hSl : S ≤ lo) (hn : (xs.zip ys).length ≤ sizeLine) (res : Value) {h1 : Heap}
    (hR : ∀ h' tk acc c as, (∀ b o, b ≠ S → b ≠ zz → b ≠ pO → b ≠ j1 → b ≠ j2 → h1.get? b = some o → h'.get? b = some o) → h'.get? S = some { cls := .type "list", dict := none, data := .seq acc c, slots := #[] } → as.length = (xs.zip ys).length →
      ZOut (xs.zip ys) lo h' as → acc.toList = as.map Value.ref → R (.ok (.ret res)) { s with heap := h', toks := tk }) :
    ∀ (k i : Nat) (h : Heap) (tk c : Nat) (acc : Array Value) (as : List Addr), (xs.zip ys).length - i = k → i ≤ (xs.zip ys).length → ZOn h zz pI pO j1 j2 t1 t2 i lo → h.IsTuple t1 xs.toArray → h.IsTuple t2 ys.toArray →
      (∀ b o, b ≠ S → b ≠ zz → b ≠ pO → b ≠ j1 → b ≠ j2 → h1.get? b = some o → h.get? b = some o) → h.get? S = some { cls := .type "list", dict := none, data := .seq acc c, slots := #[] } → acc.toList = as.map Value.ref → as.length = i →
      ZOut (xs.zip ys) lo h as → lo < h.objs.size → codeAny (model prog w) A (.builtin "list.extend.loop" ⟨[.ref S, .ref zz, res], []⟩) R { s with heap := h, toks := tk } := by
  obtain ⟨s1, s2, s3, s4, s5⟩ := hSz
  obtain ⟨u1, u2, u3, u4, u5, u6, u7, u8⟩ := ht
  intro k
  induction k with
  | zero =>
    intro i h tk c acc as hk hi Z T1 T2 keep eS eacc eas O hlo
    refine codeAny_builtin PySem.F.entry_extend_loop ?_
    rw [Around.under_plainId PySem.F.plain_extend_loop _]
    show wpAny _ A.in1 (pyNext (.ref zz) >>= _) _ _ _
    refine wpAny_bind (zon_end (s := { s with heap := h, toks := tk }) (A := A.in1) hh D Z T1 T2 (zip_no (by omega)) fun h' kp => ?_)
    have above : ∀ a ∈ as, a ≠ zz ∧ a ≠ pO ∧ a ≠ j1 ∧ a ≠ j2 := fun a ha => by
      have q := O.above a ha
      obtain ⟨l1, l2, l3, l4, l5⟩ := Z.lt
      exact ⟨Nat.ne_of_gt (Nat.lt_of_le_of_lt l1 q), Nat.ne_of_gt (Nat.lt_of_le_of_lt l3 q), Nat.ne_of_gt (Nat.lt_of_le_of_lt l4 q), Nat.ne_of_gt (Nat.lt_of_le_of_lt l5 q)⟩
    refine wpAny_pure (hR h' tk acc c as (fun b o b1 b2 b3 b4 b5 e => kp b o b2 b3 b4 b5 (keep b o b1 b2 b3 b4 b5 e)) (kp S _ s1 s3 s4 s5 eS) (by omega) ⟨O.rise, O.above, fun j a hj => ?_⟩ eacc)
    obtain ⟨x, y, e3, e4⟩ := O.pairs j a hj
    obtain ⟨a1, a2, a3, a4⟩ := above a (List.mem_of_getElem? hj)
    exact ⟨x, y, e3, kp a _ a1 a2 a3 a4 e4⟩
  | succ k ih =>
    intro i h tk c acc as hk hi Z T1 T2 keep eS eacc eas O hlo
    have hlt : i < (xs.zip ys).length := by omega
    obtain ⟨x, y, ex, ey, exy⟩ := zip_at hlt
    have hsz : acc.size = i := by rw [← Array.length_toList, eacc, List.length_map, eas]
    obtain ⟨l1, l2, l3, l4, l5⟩ := Z.lt
    have hSlt : S < h.objs.size := Heap.lt_size eS
    refine codeAny_builtin PySem.F.entry_extend_loop ?_
    rw [Around.under_plainId PySem.F.plain_extend_loop _]
    show wpAny _ A.in1 (pyNext (.ref zz) >>= _) _ _ _
    refine wpAny_bind (zon_item (s := { s with heap := h, toks := tk }) D Z T1 T2 (by simpa using ex) (by simpa using ey) hlo fun h' Z' hp hn' kp => ?_)
    dsimp only at hp hn' kp ⊢
    have eS' := kp S _ s1 s3 s4 s5 eS
    have up : ∀ b o, b ≠ S → h'.get? b = some o → (h'.update S (Obj.mapSeq (·.push (Value.ref h.objs.size)))).get? b = some o := fun b o hb e => (Heap.get?_update_other _ _ (Ne.symm hb)).trans e
    show wpAny _ A.in1 (updateSeq S (·.push (Value.ref h.objs.size)) >>= _) _ _ _
    refine wpAny_bind ?_
    have tup : ∀ {t : Addr} {its : Array Value}, t ≠ S → t ≠ zz → t ≠ pO → t ≠ j1 → t ≠ j2 → h.IsTuple t its → (h'.update S (Obj.mapSeq (·.push (Value.ref h.objs.size)))).IsTuple t its := fun {t its} c1 c2 c3 c4 c5 ⟨o, e, z⟩ => ⟨o, up _ _ c1 (kp _ _ c2 c3 c4 c5 e), z⟩
    refine wpAny_updateSeq eS' rfl (wpAny_pure ⟨plainId_quiet PySem.F.plain_extend_loop _, ih (i + 1) _ tk _ (acc.push (Value.ref h.objs.size)) (as ++ [h.objs.size]) (by omega) hlt (Z'.keep (fun b o hb e => up b o hb e) ⟨s1, s2, s3, s4, s5⟩ hSl)
      (tup hSt.1 u1 u2 u3 u4 T1) (tup hSt.2 u5 u6 u7 u8 T2) (fun b o b1 b2 b3 b4 b5 e => up b o b1 (kp b o b2 b3 b4 b5 (keep b o b1 b2 b3 b4 b5 e))) (Heap.get?_update_self _ eS' rfl) (by rw [Array.toList_push, eacc, List.map_append]; rfl) (by rw [List.length_append, eas]; rfl)
      ⟨?_, ?_, ?_⟩ ?_⟩) (by rw [hsz]; omega) (by show (acc.push (Value.ref h.objs.size)).size ≤ sizeLine + 1; rw [Array.size_push, hsz]; omega)
    · refine List.pairwise_append.mpr ⟨O.rise, List.pairwise_singleton _ _, fun a ha b hb => ?_⟩
      rw [List.mem_singleton.mp hb]
      obtain ⟨j, hj⟩ := List.mem_iff_getElem?.mp ha
      obtain ⟨_, _, _, e⟩ := O.pairs j a hj
      exact Heap.lt_size e
    · intro a ha
      rcases List.mem_append.mp ha with ha | ha
      · exact O.above a ha
      · rw [List.mem_singleton.mp ha]; exact hlo
    · intro j b hj
      rcases Nat.lt_trichotomy j as.length with q | q | q
      · rw [List.getElem?_append_left q] at hj
        obtain ⟨x', y', e3, e4⟩ := O.pairs j b hj
        have hb := O.above b (List.mem_of_getElem? hj)
        exact ⟨x', y', e3, up b _ (Nat.ne_of_gt (Nat.lt_of_le_of_lt hSl hb)) (kp b _ (Nat.ne_of_gt (Nat.lt_of_le_of_lt l1 hb)) (Nat.ne_of_gt (Nat.lt_of_le_of_lt l3 hb)) (Nat.ne_of_gt (Nat.lt_of_le_of_lt l4 hb)) (Nat.ne_of_gt (Nat.lt_of_le_of_lt l5 hb)) e4)⟩
      · subst q
        have hb : h.objs.size = b := by simpa using hj
        subst hb
        exact ⟨x, y, by rw [eas]; exact exy, up _ _ (Nat.ne_of_gt hSlt) hp⟩
      · have no : (as ++ [h.objs.size])[j]? = none := List.getElem?_eq_none (by rw [List.length_append, List.length_singleton]; omega)
        rw [no] at hj; cases hj
    · have e : (h'.update S (Obj.mapSeq (·.push (Value.ref h.objs.size)))).get? h.objs.size = _ := up _ _ (Nat.ne_of_gt hSlt) hp
      exact Nat.lt_trans hlo (Heap.lt_size e)
theorem nolen_zip : typeLookup (.type "zip") "__len__" = pure none := by rw [typeLookup_type, builtinLookup_eq_fast]; kernel_rfl
theorem nohint_zip : typeLookup (.type "zip") "__length_hint__" = pure none := by rw [typeLookup_type, builtinLookup_eq_fast]; kernel_rfl
end
section
variable {prog : Program} {w : World} {A : Around} {E : Value → Shared → Prop} {s : Shared} {zz pI pO j1 j2 t1 t2 lo : Addr} {xs ys : List Value}
theorem zl_extend {S : Addr} {R : Result → Shared → Prop} (hh : A.handled = none) (D : ZipApart zz pI pO j1 j2 t1 t2) (hSz : S ≠ zz ∧ S ≠ pI ∧ S ≠ pO ∧ S ≠ j1 ∧ S ≠ j2) (hSt : t1 ≠ S ∧ t2 ≠ S) (ht : t1 ≠ zz ∧ t1 ≠ pO ∧ t1 ≠ j1 ∧ t1 ≠ j2 ∧ t2 ≠ zz ∧ t2 ≠ pO ∧ t2 ≠ j1 ∧ t2 ≠ j2)
    (hn : (xs.zip ys).length ≤ sizeLine) (res : Value) {c0 : Nat} (hlo : S = lo) (hz0 : IsZip s.heap zz pI pO .none) (Z : ZOn s.heap zz pI pO j1 j2 t1 t2 0 lo) (T1 : s.heap.IsTuple t1 xs.toArray) (T2 : s.heap.IsTuple t2 ys.toArray) (eS : s.heap.get? S = some { cls := .type "list", data := .seq #[] c0 })
    (hR : ∀ h' tk acc c as, (∀ b o, b ≠ S → b ≠ zz → b ≠ pO → b ≠ j1 → b ≠ j2 → s.heap.get? b = some o → h'.get? b = some o) → h'.get? S = some { cls := .type "list", dict := none, data := .seq acc c, slots := #[] } → as.length = (xs.zip ys).length →
      ZOut (xs.zip ys) lo h' as → acc.toList = as.map Value.ref → R (.ok (.ret res)) { s with heap := h', toks := tk }) :
    wpAny (model prog w) A.in1 (Builtin.List.listExtendWith (.ref S) (.ref zz) res)
      (fun fin s' => match fin with | .done f => R (.ok f) s' | .again c' => c'.quiet = true ∧ codeAny (model prog w) A c' R s') (fun e s' => R (.error e) s') s := by
  obtain ⟨s1, s2, s3, s4, s5⟩ := id hSz
  have zty : s.TypeIs (.ref zz) "zip" := ⟨_, hz0, rfl⟩
  unfold Builtin.List.listExtendWith
  refine wpAny_bind (wpAny_typeOf (T := "zip") zty ?_)
  have h1 : Builtin.List.listSameRef (.ref S) (.ref zz) = false := by simp [Builtin.List.listSameRef, s1]
  have h2 : (Value.type "zip" == Value.type "list") = false := by decide
  have h3 : (Value.type "zip" == Value.type "tuple") = false := by decide
  rw [h1, h2, h3]
  rw [if_neg (by simp)]
  refine wpAny_bind (wpAny_pyIter_zip hz0 ?_)
  refine wpAny_bind (wpAny_holding ?_)
  unfold Builtin.List.listLengthHint
  refine wpAny_bind (wpAny_specialOf zty nolen_zip ?_)
  show wpAny _ A.in1 (specialOf (Value.ref zz) (Str.ofString "__length_hint__") >>= _) _ _ _
  refine wpAny_bind (wpAny_specialOf zty nohint_zip ?_)
  refine wpAny_pure ?_
  show wpAny _ A.in1 (rule "list.extend.makes-room" >>= fun _ => Builtin.List.listTouch (.ref S) >>= fun _ =>
    again (.builtin "list.extend.loop" ⟨[.ref S, .ref zz, res], []⟩)) _ _ _
  refine wpAny_bind (wpAny_rule ?_)
  refine wpAny_bind ?_
  show wpAny _ A.in1 (updateSeq S (·.push .none) >>= fun _ => updateSeq S (·.pop)) _ _ _
  refine wpAny_bind (wpAny_updateSeq eS rfl ?_)
  have eS2 := Heap.get?_update_self (Obj.mapSeq (·.push Value.none)) eS rfl
  refine wpAny_updateSeq eS2 rfl ?_
  have eS3 := Heap.get?_update_self (Obj.mapSeq (·.pop)) eS2 rfl
  have oth : ∀ b o, b ≠ S → s.heap.get? b = some o → ((s.heap.update S (Obj.mapSeq (·.push Value.none))).update S (Obj.mapSeq (·.pop))).get? b = some o :=
    fun b o hb e => (Heap.get?_update_other _ _ (Ne.symm hb)).trans ((Heap.get?_update_other _ _ (Ne.symm hb)).trans e)
  refine wpAny_pure ⟨plainId_quiet PySem.F.plain_extend_loop _, zl_loop (s := s) (h1 := s.heap) hh D hSz hSt ht (by rw [hlo]; exact Nat.le_refl _) hn res hR _ 0 _ s.toks _ #[] [] rfl (Nat.zero_le _) (Z.keep oth hSz (by rw [hlo]; exact Nat.le_refl _)) ?_ ?_ (fun b o b1 _ _ _ _ e => oth b o b1 e) eS3 rfl rfl
    ⟨List.Pairwise.nil, (fun _ ha => nomatch ha), (fun j a hj => by simp at hj)⟩ (by rw [← hlo]; exact Heap.lt_size eS3)⟩
  · obtain ⟨o, e, z⟩ := T1
    exact ⟨o, oth _ _ hSt.1 e, z⟩
  · obtain ⟨o, e, z⟩ := T2
    exact ⟨o, oth _ _ hSt.2 e, z⟩
theorem zl_call {Q : Value → Shared → Prop} (hh : A.handled = none) (D : ZipApart zz pI pO j1 j2 t1 t2) (hz0 : IsZip s.heap zz pI pO .none) (hO : ∃ x y, IsPair s.heap pO x y) (hI : IsPair s.heap pI (.ref j1) (.ref j2)) (e1 : s.heap.IsTupleIter j1 t1 0) (e2 : s.heap.IsTupleIter j2 t2 0)
    (T1 : s.heap.IsTuple t1 xs.toArray) (T2 : s.heap.IsTuple t2 ys.toArray) (ht : t1 ≠ zz ∧ t1 ≠ pO ∧ t1 ≠ j1 ∧ t1 ≠ j2 ∧ t2 ≠ zz ∧ t2 ≠ pO ∧ t2 ≠ j1 ∧ t2 ≠ j2) (hn : (xs.zip ys).length ≤ sizeLine)
    (hQ : ∀ h' tk acc c as, (∀ b o, b ≠ zz → b ≠ pO → b ≠ j1 → b ≠ j2 → s.heap.get? b = some o → h'.get? b = some o) → h'.get? s.heap.objs.size = some { cls := .type "list", dict := none, data := .seq acc c, slots := #[] } → as.length = (xs.zip ys).length →
      ZOut (xs.zip ys) s.heap.objs.size h' as → acc.toList = as.map Value.ref → Q (.ref s.heap.objs.size) { s with heap := h', toks := tk }) : wpAny (model prog w) A (call (.type "list") [.ref zz]) Q E s := by
  refine callType_codes (Q₁ := fun obj s₁ => obj = .ref s.heap.objs.size ∧ s₁ = { s with heap := s.heap.push { cls := .type "list", data := .seq #[] } }) PySem.F.called_list (PySem.F.typeCall_list_1 _) PySem.F.entry_list_init
    (code_list_new _ ⟨rfl, rfl⟩) fun obj sN hN => ?_
  obtain ⟨rfl, rfl⟩ := hN
  have eS : (s.heap.push { cls := .type "list", data := .seq #[] }).get? s.heap.objs.size = some { cls := .type "list", data := .seq #[] } := Heap.get?_push_size _ rfl
  have lz : zz < s.heap.objs.size := Heap.lt_size hz0
  have lI : pI < s.heap.objs.size := Heap.lt_size hI
  have lO : pO < s.heap.objs.size := by obtain ⟨_, _, h⟩ := hO; exact Heap.lt_size h
  have lj1 : j1 < s.heap.objs.size := by obtain ⟨_, h, _⟩ := e1; exact Heap.lt_size h
  have lj2 : j2 < s.heap.objs.size := by obtain ⟨_, h, _⟩ := e2; exact Heap.lt_size h
  have lt1 : t1 < s.heap.objs.size := by obtain ⟨_, h, _⟩ := T1; exact Heap.lt_size h
  have lt2 : t2 < s.heap.objs.size := by obtain ⟨_, h, _⟩ := T2; exact Heap.lt_size h
  refine ⟨⟨_, eS, rfl⟩, PySem.F.args_list_init_2 _ _, ?_⟩
  show wpAny _ _ (do
    let old ← Builtin.List.listItems (.ref s.heap.objs.size)
    Builtin.List.listUpdate (.ref s.heap.objs.size) (fun _ => #[])
    letGo old.toList.reverse
    Builtin.List.listExtendWith (.ref s.heap.objs.size) (.ref zz) .none) _ _ _
  refine wpAny_bind ?_
  unfold Builtin.List.listItems
  refine wpAny_bind (wpAny_seqItems eS rfl (wpAny_pure ?_))
  show wpAny _ _ (updateSeq s.heap.objs.size (fun _ => #[]) >>= fun _ => letGo (#[] : Array Value).toList.reverse >>= fun _ => Builtin.List.listExtendWith (.ref s.heap.objs.size) (.ref zz) .none) _ _ _
  refine wpAny_bind (wpAny_updateSeq eS rfl ?_)
  have eS2 := Heap.get?_update_self (Obj.mapSeq (fun _ => (#[] : Array Value))) eS rfl
  have oth : ∀ b o, s.heap.get? b = some o → ((s.heap.push { cls := .type "list", data := .seq #[] }).update s.heap.objs.size (Obj.mapSeq (fun _ => (#[] : Array Value)))).get? b = some o :=
    fun b o e => (Heap.get?_update_other _ _ (Nat.ne_of_gt (Heap.lt_size e))).trans (Heap.get?_push_of_some _ e)
  refine wpAny_bind (wpAny_letGo ?_)
  obtain ⟨x0, y0, hO⟩ := hO
  refine zl_extend (lo := s.heap.objs.size) (A := A.in1) hh D ⟨Nat.ne_of_gt lz, Nat.ne_of_gt lI, Nat.ne_of_gt lO, Nat.ne_of_gt lj1, Nat.ne_of_gt lj2⟩ ⟨Nat.ne_of_lt lt1, Nat.ne_of_lt lt2⟩ ht hn .none rfl (oth _ _ hz0)
    ⟨.inl ⟨rfl, oth _ _ hz0, x0, y0, oth _ _ hO⟩, oth _ _ hI, e1.at fun o e => oth _ o e, e2.at fun o e => oth _ o e, ⟨Nat.le_of_lt lz, Nat.le_of_lt lI, Nat.le_of_lt lO, Nat.le_of_lt lj1, Nat.le_of_lt lj2⟩⟩
    (let ⟨o, e, z⟩ := T1; ⟨o, oth _ _ e, z⟩) (let ⟨o, e, z⟩ := T2; ⟨o, oth _ _ e, z⟩) eS2 fun h' tk acc c as kp eS3 el O ea => ?_
  exact ⟨rfl, hQ h' tk acc c as (fun b o b2 b3 b4 b5 e => kp b o (Nat.ne_of_lt (Heap.lt_size e)) b2 b3 b4 b5 (oth b o e)) eS3 el O ea⟩
end
/-! ### the tuples tracked -/
def putP : Hp → List Addr → List (V × V) → Hp
  | H, a :: as, p :: ps => putP (upd H a (.tup [p.1, p.2])) as ps
  | H, _, _ => H
theorem putP_off {b : Addr} : ∀ (as : List Addr) (ps : List (V × V)) (H : Hp), b ∉ as → putP H as ps b = H b
  | [], _, _, _ => rfl
  | _ :: _, [], _, _ => rfl
  | a :: as, p :: ps, H, h => by
    show putP (upd H a _) as ps b = H b
    rw [putP_off as ps _ fun z => h (List.mem_cons_of_mem _ z), upd_ne fun z => h (by rw [z]; exact List.mem_cons_self)]
theorem putP_at : ∀ (as : List Addr) (ps : List (V × V)) (H : Hp), as.Nodup → ∀ (i : Nat) (a : Addr) (p : V × V), as[i]? = some a → ps[i]? = some p → putP H as ps a = some (.tup [p.1, p.2])
  | [], _, _, _, i, a, p, h, _ => by simp at h
  | _ :: _, [], _, _, i, a, p, _, h => by simp at h
  | a :: as, p :: ps, H, nd, 0, b, q, h1, h2 => by
    simp at h1 h2
    subst h1; subst h2
    show putP (upd H a _) as ps a = _
    rw [putP_off as ps _ (List.nodup_cons.mp nd).1, upd_same]
  | a :: as, p :: ps, H, nd, i + 1, b, q, h1, h2 => putP_at as ps _ (List.nodup_cons.mp nd).2 i b q (by simpa using h1) (by simpa using h2)
theorem ext_putP {ρ : List Addr} : ∀ (as : List Addr) (ps : List (V × V)) (H : Hp), as.Nodup → (∀ a ∈ as, H a = none) → Ext ρ H ρ (putP H as ps)
  | [], _, _, _, _ => Ext.refl
  | _ :: _, [], _, _, _ => Ext.refl
  | a :: as, p :: ps, H, nd, h => (ext_new (h a List.mem_cons_self)).trans (ext_putP as ps _ (List.nodup_cons.mp nd).2 fun b hb => by
    rw [upd_ne fun z => (List.nodup_cons.mp nd).1 (by rw [← z]; exact hb)]
    exact h b (List.mem_cons_of_mem _ hb))
section
variable {X : Cx} {pins : List (Addr × Obj)} {σ : L2.St} {H : Hp} {s : Shared}
theorem pairs_laid {h' : Heap} {tk c : Nat} {xs ys : List V} {us ws : List Value} {acc : Array Value} {as : List Addr} (I : Inv X pins σ H s) (rx : Vals xs us) (ry : Vals ys ws) (hz : (us.zip ws).length ≤ sizeLine) (kp : ∀ b o, s.heap.get? b = some o → h'.get? b = some o)
    {S : Addr} (hS : s.heap.objs.size ≤ S) (eS : h'.get? S = some { cls := .type "list", dict := none, data := .seq acc c, slots := #[] }) (hl : as.length = (us.zip ws).length) (O : ZOut (us.zip ws) S h' as) (hacc : acc.toList = as.map Value.ref) :
    Inv X pins σ (upd (putP H as (xs.zip ys)) S (.lst (as.map V.ref))) { s with heap := h', toks := tk } ∧ as.Nodup ∧ (∀ t ∈ as, H t = none) ∧ S ∉ as ∧ H S = none := by
  have nd : as.Nodup := List.Pairwise.imp (fun {a b} (h : a < b) => Nat.ne_of_lt h) O.rise
  have nS : S ∉ as := fun z => Nat.lt_irrefl _ (O.above _ z)
  have new : ∀ t ∈ as, H t = none := fun t ht => I.hok.fresh (Nat.le_trans hS (Nat.le_of_lt (O.above t ht)))
  have newS : H S = none := I.hok.fresh hS
  refine ⟨?_, nd, new, nS, newS⟩
  have low : ∀ b o, s.heap.get? b = some o → b ∉ as ∧ b ≠ S := fun b o e => ⟨fun z => absurd (Heap.lt_size e) (Nat.not_lt.mpr (Nat.le_trans hS (Nat.le_of_lt (O.above b z)))), fun z => absurd (Heap.lt_size e) (Nat.not_lt.mpr (by rw [z]; exact hS))⟩
  have off : ∀ b, b ∉ as → b ≠ S → upd (putP H as (xs.zip ys)) S (.lst (as.map V.ref)) b = H b := fun b q1 q2 => by rw [upd_ne q2, putP_off as _ _ q1]
  have up : ∀ b u, H b = some u → upd (putP H as (xs.zip ys)) S (.lst (as.map V.ref)) b = some u := fun b u e => by
    rw [off b (fun z => by rw [new b z] at e; cases e) (fun z => by rw [z, newS] at e; cases e)]
    exact e
  refine I.call' (ch := []) rfl ⟨fun b o q _ _ _ => kp b o q, fun b o q _ _ _ => ⟨o.slots, kp b o q⟩, fun b o q n _ => ?_, fun b o q _ => ⟨o, kp b o q⟩, fun b xs q => up b _ q, fun b o u q => up b _ q, fun b ps q => ⟨#[], by rw [up b _ q]; simp⟩⟩ (fun b u q => ?_) I.bare fun b z => by simp at z
  · obtain ⟨z1, z2⟩ := low b o q
    rw [off b z1 z2]
    exact n
  · by_cases hb2 : b = S
    · subst hb2
      rw [upd_same] at q
      cases q
      refine ⟨by rw [List.length_map, hl]; exact hz, acc.toList, c, by rw [hacc]; exact LiI.vals_refs as, ?_⟩
      rw [Array.toArray_toList]
      exact eS
    · by_cases hb : b ∈ as
      · obtain ⟨j, ej⟩ := List.mem_iff_getElem?.mp hb
        obtain ⟨x, y, e1, e2⟩ := O.pairs j b ej
        have hjl : j < (us.zip ws).length := (List.getElem?_eq_some_iff.mp e1).1
        rw [List.length_zip] at hjl
        have lx := rx.length
        have ly := ry.length
        have hx : xs[j]? = some xs[j] := by simp
        have hy : ys[j]? = some ys[j] := by simp
        obtain ⟨x', ex, rxx⟩ := rx.get hx
        obtain ⟨y', ey, ryy⟩ := ry.get hy
        have exy : (us.zip ws)[j]? = some (x', y') := by
          rw [List.getElem?_zip_eq_some]
          exact ⟨ex, ey⟩
        rw [exy] at e1
        cases e1
        have ez : (xs.zip ys)[j]? = some (xs[j], ys[j]) := by
          rw [List.getElem?_zip_eq_some]
          exact ⟨hx, hy⟩
        rw [upd_ne hb2, putP_at as _ _ nd j b _ ej ez] at q
        cases q
        exact ⟨by show 2 ≤ sizeLine; decide, [_, _], .cons rxx (.cons ryy .nil), ⟨_, e2, rfl, _, rfl⟩⟩
      · rw [off b hb hb2] at q
        exact (I.hok b u q).stay (fun d v _ y => kp d v y) (fun d y => up d _ y) fun d xs y => up d _ y
/-- list(zip(a, b)), both tuples -/
def tZipL (K : PySem.W.Frag) (ta : TA) : TE := fun σ H Q => ta σ H fun vs H1 => ∃ a b xs ys, vs = [.ref a, .ref b] ∧ SqT K H1 a xs ∧ SqT K H1 b ys ∧ ∀ as S, as.length = (xs.zip ys).length → as.Nodup → (∀ t ∈ as, H1 t = none) → S ∉ as → H1 S = none → Q (.ref S) (upd (putP H1 as (xs.zip ys)) S (.lst (as.map V.ref)))
theorem pe_zipL {e1 e2 : Expr} {ta : TA} {p q pos pos2 : Pos} (hc : X.calm = true) (hg : Gl X ("list" : Str)) (hm : X.mg ("list" : Str) = none) (hgz : Gl X ("zip" : Str)) (hmz : X.mg ("zip" : Str) = none) (ha : PA X [e1, e2] ta) (hs2 : starEach [e1, e2] X.env = (false, eval e1 X.env) :: starEach [e2] X.env) (hpl : (backTo pos2 (starEach [e2] X.env)).any (·.1) = false)
    (hs : starEach [.Call (.Name ("zip" : Str) q) [e1, e2] [] pos2] X.env = (false, eval (.Call (.Name ("zip" : Str) q) [e1, e2] [] pos2) X.env) :: starEach [] X.env) :
    PE X (.Call (.Name ("list" : Str) p) [.Call (.Name ("zip" : Str) q) [e1, e2] [] pos2] [] pos) (tZipL X.K ta) := by
  refine ⟨fun pins s σ H Q I h => ?_⟩
  refine wpAny_Call_Name_kw (ld_blt I hg hm (u := .type "list") (by decide +kernel) ?_)
  refine PyProof.Rows.callWith_type1 ?_ hs rfl
  rw [hs]
  show wpAny _ _ (spliced ((false, eval (.Call (.Name ("zip" : Str) q) [e1, e2] [] pos2) X.env) :: backTo pos (starEach [] X.env))) _ _ s
  refine Calls.spliced_cons ?_
  refine PyProof.Rows.Call_ (ld_blt I hgz hmz PyProof.Rows.boot_zip (PyProof.Rows.callWith_type1 (thn (ha.run pos2 pins s σ H _ I h) fun us sA hA => ?_) hs2 hpl))
  obtain ⟨vs, H1, I1, r1, a, b, xs, ys, ev, hx, hy, hq⟩ := hA
  subst ev
  cases r1 with
  | cons r rr => cases rr with
    | cons r' rr =>
      cases rr
      cases r
      cases r'
      obtain ⟨its, rx, tx, zx⟩ := I1.tuple hx
      obtain ⟨its2, ry, ty, zy⟩ := I1.tuple hy
      obtain ⟨oa, ea, _⟩ := id tx
      obtain ⟨ob, eb, _⟩ := id ty
      have la := Heap.lt_size ea
      have lb := Heap.lt_size eb
      refine RZ.call_zipT tx ty fun h' hz hTI hTO i1 i2 hsz kp => ?_
      refine Calls.spliced_nil ?_
      have I2 : Inv X pins σ H1 { sA with heap := h' } := I1.kept (t' := sA.toks) kp
      refine zl_call (s := { sA with heap := h' }) (I1.ok.hd hc) (PySem.W.ktu_apart sA.heap.objs.size a b la lb) hz ⟨_, _, hTO⟩ hTI i1 i2 (let ⟨o, e, z⟩ := tx; ⟨o, kp _ _ e, z⟩) (let ⟨o, e, z⟩ := ty; ⟨o, kp _ _ e, z⟩) ?_ ?_ fun h2 tk acc c as kp2 eS hl O hacc => ?_
      · have up : ∀ {t : Addr} (j : Nat), t < sA.heap.objs.size → t ≠ sA.heap.objs.size + j := fun {t} j h => Nat.ne_of_lt (Nat.lt_of_lt_of_le h (Nat.le_add_right _ j))
        exact ⟨up 4 la, up 3 la, up 0 la, up 1 la, up 4 lb, up 3 lb, up 0 lb, up 1 lb⟩
      · rw [List.length_zip]; have := rx.length; omega
      · have kp3 : ∀ b o, sA.heap.get? b = some o → h2.get? b = some o := fun b o e => by
          have lb := Heap.lt_size e
          have up : ∀ (j : Nat), b ≠ sA.heap.objs.size + j := fun j => Nat.ne_of_lt (Nat.lt_of_lt_of_le lb (Nat.le_add_right _ j))
          exact kp2 b o (up 4) (up 3) (up 0) (up 1) (kp b o e)
        have hS : sA.heap.objs.size ≤ h'.objs.size := by rw [hsz]; omega
        obtain ⟨J, nd, new, nS, newS⟩ := pairs_laid (tk := tk) I1 rx ry (by rw [List.length_zip]; have := rx.length; omega) kp3 hS eS hl O hacc
        refine ⟨.ref h'.objs.size, _, J, rfl, hq as _ ?_ nd new nS newS⟩
        rw [hl, List.length_zip, List.length_zip, rx.length, ry.length]
end
section
variable {Γ : Pg} {n : Nat} {c fa : Nat → Addr} {G : Fr} {N : List Str} {sc : Scope} {X : Cx} {κ : Cn} {cs : CS}
variable {a b e d : Expr} {da db dd : DE} {pos pos2 p q : Pos} {es : List Expr} {ds : DEs}
theorem rvs_zip {F : Addr → Prop} {ρ : List Addr} {H : Hp} : ∀ {ps qs : List PV} {xs ys : List V} {bs : List Addr}, RVs κ F ρ H ps xs → RVs κ F ρ H qs ys → bs.length = (xs.zip ys).length → (∀ (i : Nat) (a : Addr) (p : V × V), bs[i]? = some a → (xs.zip ys)[i]? = some p → H a = some (.tup [p.1, p.2])) → RVs κ F ρ H (D.zipP ps qs) (bs.map V.ref)
  | [], qs, xs, ys, bs, h, _, hl, _ => by
    simp only [RVs] at h
    subst h
    have : bs = [] := List.length_eq_zero_iff.mp (by simpa using hl)
    subst this
    simp only [D.zipP, List.map_nil]
    exact RVs.nil
  | p :: ps, [], xs, ys, bs, _, g, hl, _ => by
    simp only [RVs] at g
    subst g
    have : bs = [] := List.length_eq_zero_iff.mp (by simpa using hl)
    subst this
    simp only [D.zipP, List.map_nil]
    exact RVs.nil
  | p :: ps, q :: qs, xs, ys, bs, h, g, hl, k => by
    simp only [RVs] at h g
    obtain ⟨x, xr, rfl, h1, h2⟩ := h
    obtain ⟨y, yr, rfl, g1, g2⟩ := g
    cases bs with
    | nil => simp at hl
    | cons b bs =>
      simp only [D.zipP, List.map_cons]
      refine RVs.cons ?_ (rvs_zip h2 g2 (by simpa using hl) fun i a p e1 e2 => k (i + 1) a p (by simpa using e1) (by simpa using e2))
      simp only [RV]
      exact ⟨b, [x, y], rfl, .inl (.inl (k 0 b (x, y) rfl rfl)), RVs.cons h1 (RVs.cons g1 RVs.nil)⟩
theorem SEF.lzip (hl : okB Γ sc ("list" : Str) = true) (hx : okB Γ sc ("zip" : Str) = true) (ha : SE Γ N sc a da) (hb : SE Γ N sc b db) (hst : ∀ env, starEach [a, b] env = (false, eval a env) :: starEach [b] env := by intro _; rfl) (hst2 : ∀ env, starEach [b] env = [(false, eval b env)] := by intro _; rfl) :
    SEF Γ N sc (.Call (.Name ("list" : Str) p) [.Call (.Name ("zip" : Str) q) [a, b] [] pos2] [] pos) (D.lzip da db) := fun n c fa G X g => by
  obtain ⟨g1, g2, g3, g4⟩ := okB_gl g hl
  obtain ⟨z1, z2, z3, z4⟩ := okB_gl g hx
  refine (pe_zipL g.calm g1 g2 z1 z2 (pa_cons (ha n c fa G X g) (pa_cons (hb n c fa G X g) pa_nil (hst2 _)) (hst _)) (hst _) (by rw [hst2]; rfl) rfl).imp ?_
  rintro σ H Q ⟨ρ, st, σp, A, R, o⟩
  refine tE_bind A R o fun v st1 ρ1 H1 u e1 A1 R1 ru o1 => ?_
  refine tE_bind A1 R1 o1 fun w st2 ρ2 H2 z e2 A2 R2 rz o2 => ?_
  have ru := ru.mono (e2.mono (κ := cnOf X c) (B := G.B))
  split at o2
  · rename_i xs ys
    simp only [RV] at ru rz
    obtain ⟨a', vs, rfl, h1, r1⟩ := ru
    obtain ⟨b', ws, rfl, h2, r2⟩ := rz
    refine ⟨a', b', vs, ws, rfl, h1, h2, fun as S hl nd new nS newS => ?_⟩
    have e3 : Ext ρ2 H2 ρ2 (putP H2 as (vs.zip ws)) := ext_putP as _ _ nd new
    have W3 : Wd (cnOf X c) G.B ρ2 st2 (putP H2 as (vs.zip ws)) := A2.wd.ext_same e3 fun t ht => putP_off as _ _ fun z => A2.wd.has ht (new t z)
    obtain ⟨ps, eq, k⟩ := o2 ρ2 _ e3 (A2.step e3 W3)
    cases eq
    refine k _ S (rvs_zip (r1.mono e3.mono) (r2.mono e3.mono) hl fun i t p q1 q2 => putP_at as _ _ nd i t p q1 q2) ?_
    rw [putP_off as _ _ nS]
    exact newS
  · exact o2.elim
theorem lo_lzip : LstOnly (D.lzip da db) := fun cs σ st v st' h => lstOnly_bind h fun x st1 _ q => lstOnly_bind q fun y st2 _ q => by
  split at q
  · cases q; exact ⟨_, rfl⟩
  · cases q
end
end Dn

/-! Dicts made: {}, {k: v, ..}, dict(list of pairs). -/
namespace Dn
open PySem L2
/-- what makes a dict: kept as a value, or laid into the store -/
def tFD (κ : Cn) (G : Fr) (cs : CS) (d : DE) : TE := fun σ H Q => ∃ ρ st σp, At κ G ρ st H ∧ REnv κ (Fo G.B ρ) ρ H σp σ ∧ Out κ G ρ H (d cs σp st) fun v st' ρ' H' => ∃ t kvs, v = .dic t kvs ∧
  (t = false → ∀ es p, RKs κ (Fo G.B ρ') ρ' H' kvs es → H' p = none → Q (.ref p) (upd H' p (.dK es))) ∧ (t = true → ∀ es p, RTs κ (Fo G.B ρ') ρ' H' kvs es → H' p = none → Q (.ref p) (upd H' p (dTO κ p es)))
def SED (Γ : Pg) (N : List Str) (sc : Scope) (e : Expr) (d : DE) : Prop := ∀ (n : Nat) (c fa : Nat → Addr) (G : Fr) (X : Cx), Good Γ n c fa G N sc X → PE X e (tFD (cnOf X c) G (callN Γ.tbl n) d)
def DicOnly (d : DE) : Prop := ∀ cs σ st v st', d cs σ st = .ok v st' → ∃ t kvs, v = .dic t kvs
section
variable {Γ : Pg} {n : Nat} {c fa : Nat → Addr} {G : Fr} {N : List Str} {sc : Scope} {X : Cx} {κ : Cn} {cs : CS}
variable {a b e : Expr} {da db d : DE} {pos p : Pos}
theorem tFD_val (hl : DicOnly d) : ∀ σ H Q, tE κ G cs d σ H Q → tFD κ G cs d σ H Q := by
  rintro σ H Q ⟨ρ, st, σp, A, R, o⟩
  refine ⟨ρ, st, σp, A, R, ?_⟩
  cases q : d cs σp st with
  | ok v st' =>
    obtain ⟨t, kvs, rfl⟩ := hl _ _ _ _ _ q
    rw [q] at o
    intro ρ' H' e' A'
    refine ⟨t, kvs, rfl, fun ht es p rs hp => ?_, fun ht es p rs hp => ?_⟩ <;> subst ht
    · have e2 : Ext ρ' H' ρ' (upd H' p (.dK es)) := ext_new hp
      refine o ρ' _ (e'.trans e2) (A'.step e2 (A'.wd.new hp)) _ ?_
      simp only [RV]
      exact ⟨p, es, rfl, upd_same, A'.wd.fo hp, rs.mono e2.mono⟩
    · have e2 : Ext ρ' H' ρ' (upd H' p (dTO κ p es)) := ext_new hp
      refine o ρ' _ (e'.trans e2) (A'.step e2 (A'.wd.new hp)) _ ?_
      simp only [RV]
      exact ⟨p, es, rfl, upd_same, A'.wd.fo hp, rs.mono e2.mono⟩
  | exc e st' => rw [q] at o; exact o
  | bad => rw [q] at o; exact o
theorem SED.val (h : SED Γ N sc e d) (hl : DicOnly d) : SE Γ N sc e d := fun n c fa G X g => (h n c fa G X g).imp (tFD_val hl)
theorem tFD_fresh (hl : DicOnly d) : ∀ σ H Q, tE κ G cs (D.fresh d) σ H Q → tFD κ G cs d σ H Q := by
  rintro σ H Q ⟨ρ, st, σp, A, R, o⟩
  refine ⟨ρ, st, σp, A, R, ?_⟩
  unfold D.fresh at o
  cases q : d cs σp st with
  | ok v st' =>
    obtain ⟨t, kvs, rfl⟩ := hl _ _ _ _ _ q
    rw [q] at o
    intro ρ' H' e' A'
    refine ⟨t, kvs, rfl, fun ht es p rs hp => ?_, fun ht es p rs hp => ?_⟩ <;> subst ht
    · have e2 : Ext ρ' H' (ρ' ++ [p]) (upd H' p (.dK es)) := ext_add hp _ rfl
      refine o _ _ (e'.trans e2) (A'.step e2 (A'.wd.add hp ⟨es, upd_same, rs.mono e2.mono⟩)) _ ?_
      simp only [RV]
      exact ⟨p, rfl, by rw [← A'.wd.len]; simp⟩
    · have e2 : Ext ρ' H' (ρ' ++ [p]) (upd H' p (dTO κ p es)) := ext_add hp _ rfl
      refine o _ _ (e'.trans e2) (A'.step e2 (A'.wd.add hp ⟨es, upd_same, rs.mono e2.mono⟩)) _ ?_
      simp only [RV]
      exact ⟨p, rfl, by rw [← A'.wd.len]; simp⟩
  | exc e st' => rw [q] at o; exact o
  | bad => rw [q] at o; exact o
theorem SED.fresh (h : SED Γ N sc e d) (hl : DicOnly d) : SE Γ N sc e (D.fresh d) := fun n c fa G X g => (h n c fa G X g).imp (tFD_fresh hl)
theorem dicOnly_bind {α : Type} {r : Res α} {f : α → Store → Res PV} {v : PV} {st' : Store} (h : r.bind f = .ok v st') (k : ∀ a st, r = .ok a st → f a st = .ok v st' → ∃ t kvs, v = .dic t kvs) : ∃ t kvs, v = .dic t kvs := by
  cases r with
  | ok a st => exact k a st rfl h
  | exc e st => cases h
  | bad => cases h
/-! {} -/
theorem dT_empty {P : Program} {w : World} {κ : Cn} (hP : κ.P = P) (hw : κ.w = w) {H : Hp} {h : Heap} {a : Addr} (hb : (a == sysModules) = false) (e : h.get? a = some { cls := .type "dict", data := .dict #[] }) : ObjOk P w H h a (dTO κ a []) := by
  subst hP hw
  have q : dPhi κ a [] h := ⟨hb, Nat.zero_le _, fun x hx => by simp at hx, [], .nil, _, #[], 0, e, ⟨rfl, rfl, rfl⟩, rfl, rfl, List.nodup_nil⟩
  refine ⟨q, ⟨_, e⟩, fun h1 h2 hh1 k => ?_⟩
  obtain ⟨q1, q2, q3, zs, q4, o1, e1, p1, w1, w2, w3, w4, w5⟩ := hh1
  exact ⟨q1, q2, q3, zs, q4, o1, e1, p1, k _ w1, w2, w3, w4, w5⟩
theorem lo_dict {ps : List (DE × DE)} {t : Bool} : DicOnly (D.dict t ps) := fun cs σ st v st' h => dicOnly_bind h fun y st1 _ q => by cases q; exact ⟨_, _, rfl⟩
theorem dT_ok {P : Program} {w : World} {κ : Cn} (hP : κ.P = P) (hw : κ.w = w) {H : Hp} {h : Heap} {a : Addr} {es : List E3} {ys : List (NestedKey × Addr × Value)} (hb : (a == sysModules) = false) (hl : es.length ≤ sizeLine) (hd : ∀ x ∈ es, x.1.depth ≤ 8) (pe : Paired EV es ys) (dd : h.DictOfH (nestedKind P w) a ys) : ObjOk P w H h a (dTO κ a es) := by
  subst hP hw
  obtain ⟨o', ee, ep, g1, g2, g3, g4, g5, g6⟩ := dd
  refine ⟨⟨hb, hl, hd, ys, pe, o', ee, ep, g1, g2, g3, g4, g6⟩, ⟨o', g1⟩, fun h1 h2 hh1 k => ?_⟩
  obtain ⟨q1, q2, q3, zs, q4, o1, e1, p1, w1, w2, w3, w4, w5⟩ := hh1
  exact ⟨q1, q2, q3, zs, q4, o1, e1, p1, k _ w1, w2, w3, w4, w5⟩
theorem paired_back {α β : Type} {R : α → β → Prop} : ∀ {xs : List α} {ys : List β}, Paired R xs ys → ∀ {y : β}, y ∈ ys → ∃ (j : Nat) (x : α), ys[j]? = some y ∧ xs[j]? = some x ∧ R x y
  | _, _, .nil, y, h => by simp at h
  | _, _, .cons (a := a) (b := b) r t, y, h => by
    rcases List.mem_cons.mp h with e | e
    · subst e
      exact ⟨0, a, rfl, rfl, r⟩
    · obtain ⟨j, x, e1, e2, e3⟩ := paired_back t e
      exact ⟨j + 1, x, by simpa using e1, by simpa using e2, e3⟩
/-- the pairs laid one behind the other -/
def putAll (es : List E3) (l : List E3) : List E3 := l.foldl (fun es q => putT es q.1 q.2.1 q.2.2) es
theorem putAll_of : ∀ {l : List E3} {zs : List (NestedKey × Addr × Value)} {es : List E3} {ys : List (NestedKey × Addr × Value)}, Paired EV l zs → Paired EV es ys → Paired EV (putAll es l) (storedAllH ys zs)
  | [], _, es, ys, .nil, r => r
  | x :: l, z :: zs, es, ys, .cons ⟨e1, e2, e3⟩ p, r => by
    show Paired EV (putAll (putT es x.1 x.2.1 x.2.2) l) (storedAllH (storedH ys z.1 z.2.1 z.2.2) zs)
    rw [e1, e2]
    exact putAll_of p (put_of e3 r)
theorem putAll_len : ∀ (l es : List E3), (putAll es l).length ≤ es.length + l.length
  | [], es => by show es.length ≤ es.length + 0; omega
  | x :: l, es => by
    have h1 := putAll_len l (putT es x.1 x.2.1 x.2.2)
    have h2 := putT_len (k := x.1) (w := x.2.2) (a := x.2.1) (es := es)
    show (putAll (putT es x.1 x.2.1 x.2.2) l).length ≤ _
    rw [List.length_cons]
    omega
theorem putAll_deep : ∀ {l es : List E3}, (∀ x ∈ es, x.1.depth ≤ 8) → (∀ x ∈ l, x.1.depth ≤ 8) → ∀ x ∈ putAll es l, x.1.depth ≤ 8
  | [], es, h, _ => h
  | y :: l, es, h, g => putAll_deep (l := l) (putT_deep h (g y List.mem_cons_self)) fun x hx => g x (List.mem_cons_of_mem _ hx)
/-- pairs with keys that may be keys -/
def KeyRs (κ : Cn) (F : Addr → Prop) (ρ : List Addr) (H : Hp) (l : List E3) : Prop := ∀ x ∈ l, ∃ k, keyT true k = true ∧ toNK k = some x.1 ∧ RV κ F ρ H k (.ref x.2.1)
theorem keyRs_is {pins : List (Addr × Obj)} {σ : St} {H : Hp} {s : Shared} {F : Addr → Prop} {ρ : List Addr} (I : Inv X pins σ H s) {l : List E3} (h : KeyRs (cnOf X c) F ρ H l) : ∀ x ∈ l, (nestedKind X.prog X.w).is s.heap x.1 x.2.1 ∧ x.1.depth ≤ 8 := fun x hx => by
  obtain ⟨k, k1, k2, k3⟩ := h x hx
  obtain ⟨nk, b, e1, d8, e2, _, is⟩ := key_is I k1 k3 rfl
  rw [k2] at e1
  cases e1
  cases e2
  exact ⟨is, d8⟩
/-- dict(xs), xs a list of pairs whose keys are tuples -/
def rDictT (X : Cx) (c : Nat → Addr) : List V → Hp → VK → Prop := fun xs H Q => ∃ (F : Addr → Prop) (ρ : List Addr) (a : Addr) (ps : List Addr) (l : List E3), xs = [.ref a] ∧ SqL X.K H a (ps.map V.ref) ∧ Paired (fun p (q : E3) => SqT X.K H p [.ref q.2.1, q.2.2]) ps l ∧ KeyRs (cnOf X c) F ρ H l ∧
  ∀ p, H p = none → Q (.ref p) (upd H p (dTO (cnOf X c) p (putAll [] l)))
theorem pairsT_of {pins : List (Addr × Obj)} {σ : St} {H : Hp} {s : Shared} (I : Inv X pins σ H s) : ∀ {ps : List Addr} {l : List E3}, Paired (fun p (q : E3) => SqT X.K H p [.ref q.2.1, q.2.2]) ps l →
    ∃ zs : List (NestedKey × Addr × Value), Paired EV l zs ∧ zs.length = ps.length ∧ ∀ (j : Nat) (z : NestedKey × Addr × Value), zs[j]? = some z → ∃ b, ps[j]? = some b ∧ s.heap.IsTuple b #[.ref z.2.1, z.2.2]
  | _, _, .nil => ⟨[], .nil, rfl, fun j q e => by simp at e⟩
  | _, _, .cons (a := p) (b := q) h t => by
    obtain ⟨zs, r, hl, hp⟩ := pairsT_of I t
    obtain ⟨its, rv, ht, _⟩ := I.tuple h
    obtain ⟨u, y, rfl, ru, ry⟩ := vals2 rv
    cases ru
    refine ⟨(q.1, q.2.1, y) :: zs, .cons ⟨rfl, rfl, ry⟩ r, by rw [List.length_cons, List.length_cons, hl], fun j z e => ?_⟩
    cases j with
    | zero =>
      cases (Option.some.inj e)
      exact ⟨p, rfl, ht⟩
    | succ j =>
      obtain ⟨b, e1, e2⟩ := hp j z (by simpa using e)
      exact ⟨b, by simpa using e1, e2⟩
theorem call_dictT (hc : X.calm = true) (hu : X.A.units + 65 < cLine) : CallR X (.type "dict") (rDictT X c) := by
  intro pins s σ H xs us Q I r q
  obtain ⟨F, ρ, a, ps, l, rfl, hq, hp, hk, q⟩ := q
  obtain ⟨u, rfl, rx⟩ := vals1 r
  cases rx
  obtain ⟨its, rv, pl, hz⟩ := I.list hq
  have ei := refs_at rv
  subst ei
  rw [List.length_map] at hz
  obtain ⟨zs, rel, hl, hpr⟩ := pairsT_of I hp
  obtain ⟨o, n, ho, hcl, hd, hdat⟩ := pl
  have his : ∀ z ∈ zs, (nestedKind X.prog X.w).is s.heap z.1 z.2.1 := fun z hz' => by
    obtain ⟨j, x, e1, e2, e3⟩ := paired_back rel hz'
    obtain ⟨f1, f2, _⟩ := e3
    rw [← f1, ← f2]
    exact (keyRs_is I hk x (List.mem_of_getElem? e2)).1
  refine call_dict_pairsH (A := X.A) (knd := nestedKind X.prog X.w) (ps := zs) (PairArg.list a (ps.map Value.ref).toArray (fun j => ps.getD j 0) (zs.map fun z => (Value.ref z.2.1, z.2.2))) (I.ok.hd hc) (room8 (A := X.A.in1) (by show X.A.units + 1 + 64 < cLine; omega) _ _) ⟨⟨o, n, ho, hcl, hd, hdat⟩, by simp [hl], fun j k v e => ?_⟩
    ⟨by simp, fun i key v e => ?_⟩ (fun h' keep z hz' => ?_) (by simp [hl]; exact hz) fun h' tk dd keep => ?_
  · rw [List.getElem?_map] at e
    cases ez : zs[j]? with
    | none => rw [ez] at e; cases e
    | some z =>
      rw [ez] at e
      cases e
      obtain ⟨b, e1, e2⟩ := hpr j z ez
      refine ⟨by simp [e1], ?_⟩
      show PairAt s.heap (ps.getD j 0) _ _
      rw [List.getD_eq_getElem?_getD, e1]
      obtain ⟨o2, f1, f2, f3⟩ := e2
      exact .inl ⟨o2, f1, f2, f3⟩
  · have e : (zs.map fun z => (Value.ref z.2.1, z.2.2))[i]? = some (key, v) := e
    rw [List.getElem?_map] at e
    cases ez : zs[i]? with
    | none => rw [ez] at e; cases e
    | some z =>
      rw [ez] at e
      cases e
      exact ⟨z.1, z.2.1, rfl, rfl⟩
  · refine nestedKind_stays.stays (fun b o vs n e ed => ?_) (his z hz')
    refine keep b o (fun hb => ?_) (by simp) e
    rw [hb] at e
    exact Nat.lt_irrefl _ (Heap.lt_size e)
  · have hm : (s.heap.objs.size == sysModules) = false := beq_eq_false_iff_ne.mpr (Nat.ne_of_gt I.big)
    have hlen : (putAll [] l).length ≤ sizeLine := by
      refine Nat.le_trans (putAll_len l []) ?_
      rw [List.length_nil, Nat.zero_add, Paired.length rel, hl]
      exact hz
    exact ⟨.ref s.heap.objs.size, upd H s.heap.objs.size (dTO (cnOf X c) s.heap.objs.size (putAll [] l)), I.laid (t' := tk) (fun b o e => keep b o (by simp) e) (Nat.le_refl _)
      (dT_ok (κ := cnOf X c) rfl rfl hm hlen (putAll_deep (fun x hx => by simp at hx) fun x hx => (keyRs_is I hk x hx).2) (putAll_of rel .nil) dd), rfl, q _ (I.hok.fresh (Nat.le_refl _))⟩
theorem pairs_true {F : Addr → Prop} {ρ : List Addr} {H : Hp} : ∀ {xs : List PV} {acc kvs : List (PV × PV)} {vs : List V} {es : List E3}, D.pairs true xs acc = some kvs → RVs κ F ρ H xs vs → RTs κ F ρ H acc es →
    ∃ (ps : List Addr) (l : List E3), vs = ps.map V.ref ∧ Paired (fun p (q : E3) => SqT κ.K H p [.ref q.2.1, q.2.2]) ps l ∧ KeyRs κ F ρ H l ∧ RTs κ F ρ H kvs (putAll es l)
  | [], acc, kvs, vs, es, h, r, ra => by
    cases h
    simp only [RVs] at r
    subst r
    exact ⟨[], [], rfl, .nil, (fun x hx => by simp at hx), ra⟩
  | x :: xs, acc, kvs, vs, es, h, r, ra => by
    unfold D.pairs at h
    split at h
    · rename_i eq; cases eq
    · rename_i k v t eq
      cases eq
      split at h
      · rename_i hk
        simp only [RVs] at r
        obtain ⟨w, vr, rfl, r1, r2⟩ := r
        simp only [RV, RVs] at r1
        obtain ⟨b, ws, rfl, h1, k1, t1, rfl, rk, v1, t2, rfl, rv, rfl⟩ := r1
        have hk' := hk
        cases k <;> simp only [keyT, if_true, Bool.false_eq_true] at hk'
        rename_i ks
        obtain ⟨nk, ek, d8⟩ := keyOk_nk 8 _ hk'
        have rk' := rk
        simp only [RV] at rk'
        obtain ⟨kb, kvs', rfl, h4, h5⟩ := rk'
        obtain ⟨ps, l, rfl, p1, p2, p3⟩ := pairs_true h r2 (ra.put ek rk rv)
        refine ⟨b :: ps, (nk, kb, v1) :: l, rfl, .cons h1 p1, fun x hx => ?_, p3⟩
        rcases List.mem_cons.mp hx with e | e
        · subst e; exact ⟨_, hk, ek, rk⟩
        · exact p2 x e
      · cases h
    · cases h
theorem pairs_false {F : Addr → Prop} {ρ : List Addr} {H : Hp} : ∀ {xs : List PV} {acc kvs : List (PV × PV)} {vs : List V} {es : List (Key × V)}, D.pairs false xs acc = some kvs → RVs κ F ρ H xs vs → RKs κ F ρ H acc es →
    ∃ (ps : List Addr) (l : List (Key × V)), vs = ps.map V.ref ∧ Paired (fun p (q : Key × V) => SqT κ.K H p [kV q.1, q.2]) ps l ∧ RKs κ F ρ H kvs (mergeK es l)
  | [], acc, kvs, vs, es, h, r, ra => by
    cases h
    simp only [RVs] at r
    subst r
    exact ⟨[], [], rfl, .nil, ra⟩
  | x :: xs, acc, kvs, vs, es, h, r, ra => by
    unfold D.pairs at h
    split at h
    · rename_i eq; cases eq
    · rename_i k v t eq
      cases eq
      split at h
      · rename_i hk
        simp only [RVs] at r
        obtain ⟨w, vr, rfl, r1, r2⟩ := r
        simp only [RV, RVs] at r1
        obtain ⟨b, ws, rfl, h1, k1, t1, rfl, rk, v1, t2, rfl, rv, rfl⟩ := r1
        obtain ⟨kk, ek⟩ := keyT_false hk
        have := rv_key ek rk
        subst this
        obtain ⟨ps, l, rfl, p1, p3⟩ := pairs_false h r2 (ra.put ek rv)
        exact ⟨b :: ps, (kk, v1) :: l, rfl, .cons h1 p1, p3⟩
      · cases h
    · cases h
theorem SED.dictOf {t : Bool} (hx : okB Γ sc ("dict" : Str) = true) (ha : SE Γ N sc a da) (hst : ∀ env, starEach [a] env = [(false, eval a env)] := by intro _; rfl) : SED Γ N sc (.Call (.Name ("dict" : Str) p) [a] [] pos) (D.op1 (O.dictOf t) da) := fun n c fa G X g => by
  obtain ⟨g1, g2, g3, g4⟩ := okB_gl g hx
  refine (pe_callTy (CallR.or (call_dictP g.calm) (call_dictT (c := c) g.calm g.u65)) g1 g2 (by decide +kernel) (pa_cons (ha n c fa G X g) pa_nil (hst _)) g3 g4 (hst _) rfl).imp ?_
  rintro σ H Q ⟨ρ, st, σp, A, R, o⟩
  refine tE_bind A R o fun v st1 ρ1 H1 u e1 A1 R1 ru o1 => ?_
  obtain ⟨res, ef, k⟩ := o1.of
  have rp := RR.of A1.wd ru
  obtain ⟨t', kvs, rfl, k1, k2⟩ := k ρ1 H1 Ext.refl A1
  unfold O.dictOf at ef
  split at ef
  · rename_i xs eq
    rw [eq] at rp
    obtain ⟨a', vs, rfl, h1, r1⟩ := rr_lst rp
    obtain ⟨kvs', ep, ez⟩ := Option.map_eq_some_iff.mp ef
    cases ez
    cases t with
    | false =>
      obtain ⟨ps, l, rfl, p1, p2⟩ := pairs_false (es := []) ep r1 (by simp only [RKs])
      exact .inl ⟨a', ps, l, rfl, SqL.of h1, p1, fun q hq => k1 rfl _ q p2 hq⟩
    | true =>
      obtain ⟨ps, l, rfl, p1, p2, p3⟩ := pairs_true (es := []) ep r1 (by simp only [RTs])
      exact .inr ⟨_, _, a', ps, l, rfl, SqL.of h1, p1, p2, fun q hq => k2 rfl _ q p3 hq⟩
  · cases ef
theorem do_dictOf {t : Bool} : DicOnly (D.op1 (O.dictOf t) da) := fun cs σ st v st' q => dicOnly_bind q fun x st1 _ q => by
  cases e : O.dictOf t (deref st1 x) with
  | none => rw [e] at q; cases q
  | some w =>
    rw [e] at q
    cases q
    unfold O.dictOf at e
    split at e
    · obtain ⟨kvs, _, ez⟩ := Option.map_eq_some_iff.mp e
      exact ⟨_, _, ez.symm⟩
    · cases e
/-! {} -/
theorem SED.dict0K : SED Γ N sc (.Dict [] [] pos) (D.dict false []) := fun n c fa G X g => by
  refine pe_dnewK.imp ?_
  rintro σ H Q ⟨ρ, st, σp, A, R, o⟩
  obtain ⟨t, kvs, e, k1, _⟩ := o.ret A
  cases e
  exact fun p hp => k1 rfl [] p (by simp only [RKs]) hp
theorem pe_dnewE {κ : Cn} (hP : κ.P = X.prog) (hw : κ.w = X.w) : PE X (.Dict [] [] pos) (fun σ H Q => ∀ p, H p = none → Q (.ref p) (upd H p (dTO κ p []))) := ⟨fun pins s σ H Q I h =>
  wpAny_Dict_empty ⟨.ref s.heap.objs.size, _, I.laid (a := s.heap.objs.size) (o := dTO κ s.heap.objs.size []) (t' := s.toks) (fun _ _ q => Heap.get?_push_of_some _ q) (Nat.le_refl _) (dT_empty hP hw (beq_eq_false_iff_ne.mpr (Nat.ne_of_gt I.big)) (Heap.get?_push_size _ rfl)), rfl, h _ (I.hok.fresh (Nat.le_refl _))⟩⟩
theorem SED.dict0T : SED Γ N sc (.Dict [] [] pos) (D.dict true []) := fun n c fa G X g => by
  refine (pe_dnewE (κ := cnOf X c) rfl rfl).imp ?_
  rintro σ H Q ⟨ρ, st, σp, A, R, o⟩
  obtain ⟨t, kvs, e, _, k2⟩ := o.ret A
  cases e
  exact fun p hp => k2 rfl [] p (by simp only [RTs]) hp
end
end Dn

/-! Targets. -/
namespace Dn
open PySem L2
section
variable {Γ : Pg} {n : Nat} {c fa : Nat → Addr} {G : Fr} {N : List Str} {sc : Scope} {X : Cx} {κ : Cn} {cs : CS}
variable {a b e d : Expr} {da db dd : DE} {pos p : Pos} {es : List Expr} {ds : DEs}
def tG (κ : Cn) (G : Fr) (cs : CS) (t : DTg) : TG := fun v σ H Q => ∃ ρ st σp p, At κ G ρ st H ∧ REnv κ (Fo G.B ρ) ρ H σp σ ∧ RV κ (Fo G.B ρ) ρ H p v ∧ Out κ G ρ H (t cs p σp st) fun σp' _ ρ' H' => ∀ σ', REnv κ (Fo G.B ρ') ρ' H' σp' σ' → Q σ' H'
def tGs (κ : Cn) (G : Fr) (cs : CS) (ts : List DTg) : TGs := fun vs σ H Q => ∃ ρ st σp ps, At κ G ρ st H ∧ REnv κ (Fo G.B ρ) ρ H σp σ ∧ RVs κ (Fo G.B ρ) ρ H ps vs ∧ Out κ G ρ H (D.tts ts cs ps σp st) fun σp' _ ρ' H' => ∀ σ', REnv κ (Fo G.B ρ') ρ' H' σp' σ' → Q σ' H'
def SG (Γ : Pg) (N : List Str) (sc : Scope) (tg : Expr) (t : DTg) : Prop := ∀ (n : Nat) (c fa : Nat → Addr) (G : Fr) (X : Cx), Good Γ n c fa G N sc X → (∀ x, X.fn x = true) → PG X tg (tG (cnOf X c) G (callN Γ.tbl n) t)
def SGs (Γ : Pg) (N : List Str) (sc : Scope) (tgs : List Expr) (ts : List DTg) : Prop := ∀ (n : Nat) (c fa : Nat → Addr) (G : Fr) (X : Cx), Good Γ n c fa G N sc X → (∀ x, X.fn x = true) → PGs X tgs (tGs (cnOf X c) G (callN Γ.tbl n) ts)
theorem PG_imp {X : Cx} {tg : Expr} {t t' : TG} (h : PG X tg t) (i : ∀ v σ H Q, t' v σ H Q → t v σ H Q) : PG X tg t' := ⟨fun pins s σ H v u Q I r q => h.run pins s σ H v u Q I r (i v σ H Q q)⟩
theorem PGs_imp {X : Cx} {tg : List Expr} {t t' : TGs} (h : PGs X tg t) (i : ∀ v σ H Q, t' v σ H Q → t v σ H Q) : PGs X tg t' := ⟨fun pins s σ H v u Q I r q => h.run pins s σ H v u Q I r (i v σ H Q q)⟩
theorem PG_or {X : Cx} {tg : Expr} {t t' : TG} (h : PG X tg t) (h' : PG X tg t') : PG X tg (fun v σ H Q => t v σ H Q ∨ t' v σ H Q) := ⟨fun pins s σ H v u Q I r q => q.elim (fun q => h.run pins s σ H v u Q I r q) fun q => h'.run pins s σ H v u Q I r q⟩
theorem PSet_or {X : Cx} {t t' : TSet} (h : PSet X t) (h' : PSet X t') : PSet X (fun o i v H Q => t o i v H Q ∨ t' o i v H Q) := fun pins s σ H o i v ov iv u Q I r1 r2 r3 q => q.elim (fun q => h pins s σ H o i v ov iv u Q I r1 r2 r3 q) fun q => h' pins s σ H o i v ov iv u Q I r1 r2 r3 q
def LocB (sc : Scope) (x : Str) : Bool := match sc.names.lookup x with
  | some .local => true
  | some .cell => true
  | _ => false
theorem loc_of {x : Str} (h : LocB sc x = true) : L2.Loc sc x := by
  unfold LocB at h
  unfold L2.Loc
  cases q : sc.names.lookup x with
  | none => rw [q] at h; cases h
  | some k => cases k <;> simp_all
def okT (N : List Str) (sc : Scope) (i : Nat) (x : Str) : Bool := decide (N[i]? = some x) && LocB sc x
theorem SG.tn {i : Nat} {x : Str} (h : okT N sc i x = true) : SG Γ N sc (.Name x pos) (D.tn i) := fun n c fa G X g hfn => by
  unfold okT at h
  simp only [Bool.and_eq_true, decide_eq_true_eq] at h
  have hl : L2.Loc X.env.scope x := by rw [g.hsc]; exact loc_of h.2
  refine PG_imp (pg_name (i := i) g.nd (by rw [g.hN]; exact h.1) hl (.inl (hfn x))) ?_
  rintro v σ H Q ⟨ρ, st, σp, p, A, R, r, o⟩
  exact o.ret A _ (R.set r)
theorem SGs.nil : SGs Γ N sc [] [] := fun n c fa G X g hfn => by
  refine PGs_imp pgs_nil ?_
  rintro vs σ H Q ⟨ρ, st, σp, ps, A, R, r, o⟩
  cases ps with
  | nil =>
    simp only [RVs] at r
    have o : Out (cnOf X c) G ρ H (.ok σp st) _ := o
    exact ⟨r, o.ret A σ R⟩
  | cons q qs => exact (show False from o).elim
theorem SGs.cons {t : DTg} {ts : List DTg} (h : SG Γ N sc e t) (hs : SGs Γ N sc es ts) (ha : ∀ env, (assignEach (e :: es) env).map (·.2) = assign e env :: (assignEach es env).map (·.2) := by intro _; rfl) : SGs Γ N sc (e :: es) (t :: ts) := fun n c fa G X g hfn => by
  refine PGs_imp (pgs_cons (h n c fa G X g hfn) (hs n c fa G X g hfn) (ha _)) ?_
  rintro vs σ H Q ⟨ρ, st, σp, ps, A, R, r, o⟩
  cases ps with
  | nil => exact (show False from o).elim
  | cons q qs =>
    have o : Out (cnOf X c) G ρ H ((t (callN Γ.tbl n) q σp st).bind fun σ st => D.tts ts (callN Γ.tbl n) qs σ st) _ := o
    simp only [RVs] at r
    obtain ⟨v, vr, rfl, r1, r2⟩ := r
    refine ⟨v, vr, rfl, ρ, st, σp, q, A, R, r1, o.bind.mono fun σp1 st1 ρ1 H1 e1 A1 o1 σ1 R1 => ?_⟩
    exact ⟨ρ1, st1, σp1, qs, A1, R1, r2.mono e1.mono, o1⟩
theorem SG.tt {kk m : Nat} {ts : List DTg} (h : SGs Γ N sc es ts) (hm : ts.length = m) (hn : ∀ env, (assignEach es env).length = m := by intro _; rfl) (hst : ∀ env, (assignEach es env).findIdx? (·.1) = none := by intro _; rfl) : SG Γ N sc (.Tuple es kk pos) (D.tt ts) := fun n c fa G X g hfn => by
  refine PG_imp (PG_or (pg_tup g.calm (h n c fa G X g hfn) (hn _) (hst _)) (pg_lst g.calm (h n c fa G X g hfn) (hn _) (hst _))) ?_
  rintro v σ H Q ⟨ρ, st, σp, p, A, R, r, o⟩
  have rd := RR.of A.wd r
  unfold D.tt at o
  split at o
  · rename_i xs eq
    split at o
    · rename_i hl
      have hl := Nat.eq_of_beq_eq_true hl
      rw [eq] at rd
      obtain ⟨a', vs, rfl, h1, r1⟩ := rr_tup rd
      exact .inl ⟨a', vs, rfl, h1, by rw [← r1.length, hl, hm], ρ, st, σp, xs, A, R, r1, o⟩
    · exact o.elim
  · rename_i xs eq
    split at o
    · rename_i hl
      have hl := Nat.eq_of_beq_eq_true hl
      rw [eq] at rd
      obtain ⟨a', vs, rfl, h1, r1⟩ := rr_lst rd
      exact .inr ⟨a', vs, rfl, SqL.of h1, by rw [← r1.length, hl, hm], ρ, st, σp, xs, A, R, r1, o⟩
    · exact o.elim
  · exact o.elim
/-! ### o.f = v -/
def gAttr (K : PySem.W.Frag) (to : TE) (f : Str) : TG := fun v σ H Q => to σ H fun x H1 => ∃ a C dx fs, x = .ref a ∧ H1 a = some (.ins C dx fs) ∧ Cls K C ∧ NoAttr K C f ∧ fs.length < 1000 ∧ Q σ (upd H1 a (.ins C dx (putF f v fs)))
theorem pg_attr {o : Expr} {to : TE} {f : Str} (ho : PE X o to) : PG X (.Attribute o f pos) (gAttr X.K to f) := by
  constructor
  intro pn s0 sg H0 v0 u0 Q0 I0 rv hw
  show wpAny _ _ (do
    let ov ← holding [u0] (eval o X.env)
    standAt pos.atName
    holding [u0, ov] (setAttr ov f u0)
    release [u0, ov] []) _ _ s0
  refine wpAny_bind (wpAny_holding (thn (ho.run pn s0 sg H0 _ I0 hw) ?_))
  rintro ov sA ⟨x, HA, IA, rA, a0, C, dx, fs, rfl, ha, cl, na, hl, q⟩
  cases rA
  refine wpAny_bind (wpAny_standAt (wpAny_bind (wpAny_holding ?_)))
  exact setattr_ok IA ha cl na hl rv fun sB IB => wpAny_release ⟨sg, _, IB, q⟩
theorem SG.tattr {C : Nat} {f f' : Str} (he : f = f') (hx : okA Γ C f = true) (ha : SE Γ N sc a da) : SG Γ N sc (.Attribute a f pos) (D.tattr C da f') := fun n c fa G X g hfn => by
  subst he
  unfold okA at hx
  simp only [Bool.and_eq_true] at hx
  obtain ⟨x, ex⟩ := Option.isSome_iff_exists.mp hx.1
  refine PG_imp (pg_attr (f := f) (ha n c fa G X g)) ?_
  rintro v σ H Q ⟨ρ, st, σp, p, A, R, r, o⟩
  refine tE_bind A R o fun w st1 ρ1 H1 u e1 A1 R1 ru o1 => ?_
  split at o1
  · rename_i m
    split at o1
    · rename_i C' fs em
      split at o1
      · rename_i hc
        simp only [Bool.and_eq_true, decide_eq_true_eq] at hc
        have ec := Nat.eq_of_beq_eq_true hc.1
        subst ec
        obtain ⟨a', dx, gs, rfl, h1, h2, h3⟩ := ins_at A1 em ru
        refine ⟨a', _, dx, gs, rfl, h2, (g.env.cn _ x ex).2.2, g.env.fl _ x f ex (by simpa using hx.2), by rw [← h3.length]; exact hc.2, ?_⟩
        have e2 : Ext ρ1 H1 ρ1 (upd H1 a' (.ins (c C') dx (putF f v gs))) := ext_put A1.wd h1 (fun ys => by rw [h2]; simp) (fun o u => by rw [h2]; simp)
        have A2 : At (cnOf X c) G ρ1 (st1.set m (.ins C' (fput f p fs))) (upd H1 a' (.ins (c C') dx (putF f v gs))) :=
          A1.step e2 (A1.wd.put h1 (fun ys => by rw [h2]; simp) (fun o u => by rw [h2]; simp) ⟨dx, _, upd_same, (RFs.put ((r.mono e1.mono)) h3).mono e2.mono⟩)
        exact o1 ρ1 _ e2 A2 σ (R1.mono e2.mono)
      · exact o1.elim
    · exact o1.elim
  · exact o1.elim
/-! ### o[i] = v -/
def rSetDk (X : Cx) (c : Nat → Addr) : TSet := fun o i v H Q => ∃ F ρ k kvs es a b nk, keyT true k = true ∧ toNK k = some nk ∧ i = .ref b ∧ RV (cnOf X c) F ρ H k i ∧ o = .ref a ∧ H a = some (dTO (cnOf X c) a es) ∧ RTs (cnOf X c) F ρ H kvs es ∧ es.length < sizeLine ∧ Q (upd H a (dTO (cnOf X c) a (putT es nk b v)))
theorem set_dk (hu : X.A.units + 64 < cLine) : PSet X (rSetDk X c) := by
  intro pins s σ H o i v ov iv u Q I ro ri rv h
  obtain ⟨F, ρ, k, kvs, es, a, b, nk, hk, enk, rfl, rk, rfl, ha, rt, hl, q⟩ := h
  cases ro
  obtain ⟨nk', b', e', d8, eb, rfl, is⟩ := key_is I hk rk ri
  cases eb
  rw [enk] at e'
  cases e'
  obtain ⟨ys, hd, p, sys, _, deep⟩ := dT_of I ha rt
  have hlen : ys.length = es.length := (Paired.length p).symm
  refine wpAny_setItem_heap (room8 hu _ _) is hd (fun h' hd' hs => ?_) (by rw [hlen]; exact Nat.le_of_lt hl)
  have pe := put_of (k := nk) (a := b) rv p
  obtain ⟨o', ee, ep, g1, g2, g3, g4, g5, g6⟩ := hd'
  refine ⟨_, I.write (t' := _) (x := a) (e := a) (o := dTO (cnOf X c) a (putT es nk b v)) (by rw [ha]; exact trivial) (.inl rfl) (fun b u hb e => (hs.2 b hb).trans e) ⟨o', g1⟩ ?_, q⟩
  refine ⟨⟨sys, Nat.le_trans putT_len (by omega), putT_deep deep d8, _, pe, o', ee, ep, g1, g2, g3, g4, g6⟩, ⟨o', g1⟩, fun h1 h2 hh1 k => ?_⟩
  obtain ⟨q1, q2, q3, zs, q4, o1, e1, p1, w1, w2, w3, w4, w5⟩ := hh1
  exact ⟨q1, q2, q3, zs, q4, o1, e1, p1, k _ w1, w2, w3, w4, w5⟩
theorem SG.tsub (ha : SE Γ N sc a da) (hb : SE Γ N sc b db)
    (hh : ∀ env v, assign (.Subscript a b pos) env v = (do
      let ov ← holding [v] (eval a env)
      let iv ← holding [v, ov] (eval b env)
      standAt pos
      holding [v, ov, iv] (setItem ov iv v)
      release [v, ov, iv] []) := by intro _ _; rfl) : SG Γ N sc (.Subscript a b pos) (D.tsub da db) := fun n c fa G X g hfn => by
  refine PG_imp (pg_sub (ha n c fa G X g) (hb n c fa G X g) (PSet_or set_list (PSet_or (set_dict g.u1) (set_dk (c := c) g.u64))) (hh _)) ?_
  rintro v σ H Q ⟨ρ, st, σp, p, A, R, r, o⟩
  refine tE_bind A R o fun w st1 ρ1 H1 u e1 A1 R1 ru o1 => ?_
  refine tE_bind A1 R1 o1 fun y st2 ρ2 H2 z e2 A2 R2 rz o2 => ?_
  have ru := ru.mono (e2.mono (κ := cnOf X c) (B := G.B))
  have r2 := (r.mono (e1.mono (κ := cnOf X c) (B := G.B))).mono (e2.mono (κ := cnOf X c) (B := G.B))
  split at o2
  · rename_i st' es'
    unfold D.store at es'
    split at es'
    · rename_i m _
      simp only [RV] at ru
      obtain ⟨a', rfl, h1⟩ := ru
      split at es'
      · rename_i xs em
        split at es'
        · rename_i i
          obtain ⟨j, ej, rfl⟩ := Option.map_eq_some_iff.mp es'
          obtain ⟨vs, h2, h3⟩ := A2.wd.ob m _ a' em h1
          obtain ⟨e3, A3⟩ := put_lst (ps := xs.set j p) (xs := vs.set j v) A2 h1 h2 (h3.set j r2)
          refine .inl ⟨a', vs, i, j, rfl, rv_int rz, h2, by rw [← h3.length]; exact ej, ?_⟩
          exact o2 ρ2 _ e3 A3 σ (R2.mono e3.mono)
        · cases es'
      · rename_i t kvs em
        split at es'
        · rename_i hk
          cases es'
          simp only [Bool.and_eq_true, decide_eq_true_eq] at hk
          cases t with
          | false =>
            obtain ⟨es, h2, h3⟩ := A2.wd.ob m _ a' em h1
            obtain ⟨kk, ek⟩ := keyT_false hk.1
            have ez := rv_key ek rz
            subst ez
            have e3 : Ext ρ2 H2 ρ2 (upd H2 a' (.dK (putK es kk v))) := ext_put A2.wd h1 (fun ys => by rw [h2]; simp) (fun o u => by rw [h2]; simp)
            have A3 : At (cnOf X c) G ρ2 (st2.set m (.dic false (put y p kvs))) (upd H2 a' (.dK (putK es kk v))) :=
              A2.step e3 (A2.wd.put h1 (fun ys => by rw [h2]; simp) (fun o u => by rw [h2]; simp) ⟨_, upd_same, (h3.put ek r2).mono e3.mono⟩)
            exact .inr (.inl ⟨a', _, rfl, DPut.k h2 (by rw [← h3.length]; exact Nat.lt_of_lt_of_le hk.2 big), o2 ρ2 _ e3 A3 σ (R2.mono e3.mono)⟩)
          | true =>
            obtain ⟨es, h2, h3⟩ := A2.wd.ob m _ a' em h1
            cases y <;> simp only [keyT, if_true, Bool.false_eq_true, false_and] at hk
            rename_i ks
            obtain ⟨nk, ek, d8⟩ := keyOk_nk 8 _ hk.1
            have rz' := rz
            simp only [RV] at rz'
            obtain ⟨b', vs, rfl, h4, h5⟩ := rz'
            have e3 : Ext ρ2 H2 ρ2 (upd H2 a' (dTO (cnOf X c) a' (putT es nk b' v))) := ext_put A2.wd h1 (fun ys => by rw [h2]; simp) (fun o u => by rw [h2]; simp)
            have A3 : At (cnOf X c) G ρ2 (st2.set m (.dic true (put (.tup ks) p kvs))) (upd H2 a' (dTO (cnOf X c) a' (putT es nk b' v))) :=
              A2.step e3 (A2.wd.put h1 (fun ys => by rw [h2]; simp) (fun o u => by rw [h2]; simp) ⟨_, upd_same, (h3.put ek rz r2).mono e3.mono⟩)
            exact .inr (.inr ⟨_, ρ2, .tup ks, kvs, es, a', b', nk, by simp [keyT, hk.1], ek, rfl, rz, rfl, h2, h3, by rw [← h3.length]; exact Nat.lt_of_lt_of_le hk.2 big, o2 ρ2 _ e3 A3 σ (R2.mono e3.mono)⟩)
        · cases es'
      · cases es'
    · cases es'
  · exact o2.elim
end
end Dn

/-! List comprehensions. -/
namespace Dn
open PySem L2
section
variable {Γ : Pg} {n : Nat} {c fa : Nat → Addr} {G : Fr} {N : List Str} {sc scope : Scope} {X : Cx} {κ : Cn} {cs : CS}
variable {a b e d tg iter elt : Expr} {da db dd de : DE} {pos p : Pos} {es : List Expr} {ds : DEs}
/-- the names of a block, as they are in the def around -/
def relSc (scope sc : Scope) : Scope := { scope with names := scope.names.map fun (n, k) => if (k == .free && sc.kind == .function && sc.names.lookup n == some .cell) then (n, .cell) else (n, k) }
/-- a block's frame: the list at D is being made, nothing flies -/
def Fr.blk (G : Fr) (D : Addr) : Fr := ⟨fun a => G.B a ∨ a = D, G.ρ0, G.H0, fun _ _ => False⟩
theorem exk_never {κ : Cn} {G : Fr} (h : ∀ e st, ¬ G.Ex e st) : EXK κ G = E0 := by
  funext cls d H
  apply propext
  exact ⟨fun ⟨e, st, ρ, _, _, z⟩ => h e st z, fun z => z.elim⟩
theorem Good.blk (g : Good Γ n c fa G N sc X) {own : List (Str × Nat)} (ok : blkC N sc scope own = true) (D : Addr) (s : Shared) (H : Hp) (C : Addr) (cl : List (Str × Addr)) (fp : List Addr) :
    Good Γ n c fa (G.blk D) N (relSc scope sc) (X.blk s H scope (compEnvC scope cl C X.env) fp) where
  hN := g.hN
  hsc := by
    rw [← g.hsc]
    rfl
  nd := g.nd
  calm := g.calm
  room := g.room
  ng := g.ng
  env := g.env
  ps := by
    rw [exk_never fun e st z => z]
    exact passL
  po := PassesOwn.never
  kind := (blkOk_by ok).kind
def STs (Γ : Pg) (N : List Str) (sc : Scope) (ts : List Expr) (ds : List DE) : Prop := match ts, ds with
  | [], [] => True
  | [t], [d] => ST Γ N sc t d
  | _, _ => False
def tTs (κ : Cn) (G : Fr) (cs : CS) (ds : List DE) : TT := fun σ H Q => ∃ ρ st σp, At κ G ρ st H ∧ REnv κ (Fo G.B ρ) ρ H σp σ ∧ Out κ G ρ H (D.tests ds cs σp st) fun b _ _ H' => Q b H'
theorem PTs_imp {X : Cx} {ts : List Expr} {t t' : TT} (h : PTs X ts t) (i : ∀ σ H Q, t' σ H Q → t σ H Q) : PTs X ts t' := ⟨fun pins s σ H Q I q => h.run pins s σ H Q I (i σ H Q q)⟩
theorem STs.pts {ts : List Expr} {ds : List DE} (h : STs Γ N sc ts ds) (g : Good Γ n c fa G N sc X) : PTs X ts (tTs (cnOf X c) G (callN Γ.tbl n) ds) := by
  unfold STs at h
  split at h
  · refine PTs_imp pts_nil ?_
    rintro σ H Q ⟨ρ, st, σp, A, R, o⟩
    exact o.ret A
  · refine PTs_imp (pts_one (h n c fa G X g)) ?_
    rintro σ H Q ⟨ρ, st, σp, A, R, o⟩
    refine tT_bind A R o fun v st1 ρ1 H1 e1 A1 R1 o1 => ?_
    split at o1
    · exact ⟨_, rfl, o1.ret A1⟩
    · exact o1.elim
  · exact h.elim
/-- without D -/
def del (H : Hp) (D : Addr) : Hp := fun a => if a = D then none else H a
theorem del_ne {H : Hp} {D a : Addr} (h : a ≠ D) : del H D a = H a := if_neg h
theorem del_at {H : Hp} {D : Addr} : del H D D = none := if_pos rfl
theorem upd_del {H : Hp} {D : Addr} {o : HO} (h : H D = some o) : upd (del H D) D o = H := by
  funext a
  unfold upd del
  by_cases e : a = D
  · rw [if_pos e, e, h]
  · rw [if_neg e, if_neg e]
section
variable {ρ ρ1 : List Addr} {st st1 : Store} {H H1 : Hp} {D : Addr} {o : HO} {B : Addr → Prop}
/-- a thing that is new is laid: it is not of the store, and forbidden from now on -/
theorem mono_lay (h : H1 D = none) : Mono κ (Fo B ρ) ρ H1 (Fo (fun a => B a ∨ a = D) ρ) ρ (upd H1 D o) where
  tup := fun a xs h' => sqT_mono (fun a xs q => by rw [upd_ne (ne_of_none q h)]; exact q) (fun a o u q => by rw [upd_ne (ne_of_none q h)]; exact q) h'
  keep := fun a o q _ => by rw [upd_ne (ne_of_none q h)]; exact q
  out := fun a q n z => by
    rcases z with (z | z) | z
    · exact n (.inl z)
    · exact q (z ▸ h)
    · exact n (.inr z)
  get := fun n a h => h
theorem wd_lay (W : Wd κ B ρ st H1) (h : H1 D = none) : Wd κ (fun a => B a ∨ a = D) ρ st (upd H1 D o) where
  len := W.len
  nd := W.nd
  dom := fun a ha => by
    rcases ha with ha | ha
    · rw [upd_ne fun (z : a = D) => W.dom a ha (by rw [z]; exact h)]; exact W.dom a ha
    · rw [ha, upd_same]; simp
  sep := fun a ha z => by
    rcases z with z | z
    · exact W.sep a ha z
    · exact W.has ha (z ▸ h)
  ob := fun n q a h1 h2 => (W.ob n q a h1 h2).mono (mono_lay h) (upd_ne fun z => W.has (List.mem_of_getElem? h2) (z ▸ h))
/-- it changes -/
theorem mono_turn {o' : HO} (h : H D = some o') (nt : ∀ xs, o' ≠ .tup xs) (nf : ∀ q u, o' ≠ .frz q u) : Mono κ (Fo (fun a => B a ∨ a = D) ρ) ρ H (Fo (fun a => B a ∨ a = D) ρ) ρ (upd H D o) where
  tup := fun a xs h' => sqT_mono (fun a xs q => by rw [upd_ne fun (z : a = D) => nt xs (by rw [z, h] at q; exact Option.some.inj q)]; exact q) (fun a o u q => by rw [upd_ne fun (z : a = D) => nf o u (by rw [z, h] at q; exact Option.some.inj q)]; exact q) h'
  keep := fun a o q n => by rw [upd_ne fun (z : a = D) => n (.inl (.inr z))]; exact q
  out := fun a q n => n
  get := fun n a h => h
theorem wd_turn {o' : HO} (W : Wd κ (fun a => B a ∨ a = D) ρ st H) (h : H D = some o') (nt : ∀ xs, o' ≠ .tup xs) (nf : ∀ q u, o' ≠ .frz q u) : Wd κ (fun a => B a ∨ a = D) ρ st (upd H D o) where
  len := W.len
  nd := W.nd
  dom := fun a ha => by
    by_cases e : a = D
    · rw [e, upd_same]; simp
    · rw [upd_ne e]; exact W.dom a ha
  sep := W.sep
  ob := fun n q a h1 h2 => (W.ob n q a h1 h2).mono (mono_turn h nt nf) (upd_ne fun z => W.sep a (List.mem_of_getElem? h2) (.inr z))
/-- from where D was not, to where it has changed -/
theorem ext_turn {ρ0 : List Addr} {H0 : Hp} (e : Ext ρ0 H0 ρ H) (h0 : H0 D = none) : Ext ρ0 H0 ρ (upd H D o) where
  nu := e.nu
  dom := fun a h => by
    by_cases z : a = D
    · rw [z, upd_same]; simp
    · rw [upd_ne z]; exact e.dom a h
  keep := fun a u h n => by rw [upd_ne (ne_of_none h h0)]; exact e.keep a u h n
  tup := fun a u h => by rw [upd_ne (ne_of_none h h0)]; exact e.tup a u h
  frz := fun a u v h => by rw [upd_ne (ne_of_none h h0)]; exact e.frz a u v h
theorem ext_del {ρ0 : List Addr} {H0 : Hp} (e : Ext ρ0 H0 ρ H) (h0 : H0 D = none) : Ext ρ0 H0 ρ (del H D) where
  nu := e.nu
  dom := fun a h => by rw [del_ne fun (z : a = D) => h (by rw [z]; exact h0)]; exact e.dom a h
  keep := fun a u h n => by rw [del_ne (ne_of_none h h0)]; exact e.keep a u h n
  tup := fun a u h => by rw [del_ne (ne_of_none h h0)]; exact e.tup a u h
  frz := fun a u v h => by rw [del_ne (ne_of_none h h0)]; exact e.frz a u v h
theorem mono_del {o' : HO} (h : H D = some o') (nt : ∀ xs, o' ≠ .tup xs) (nf : ∀ q u, o' ≠ .frz q u) : Mono κ (Fo (fun a => B a ∨ a = D) ρ) ρ H (Fo B ρ) ρ (del H D) where
  tup := fun a xs h' => sqT_mono (fun a xs q => by rw [del_ne fun (z : a = D) => nt xs (by rw [z, h] at q; exact Option.some.inj q)]; exact q) (fun a o u q => by rw [del_ne fun (z : a = D) => nf o u (by rw [z, h] at q; exact Option.some.inj q)]; exact q) h'
  keep := fun a o q n => by rw [del_ne fun (z : a = D) => n (.inl (.inr z))]; exact q
  out := fun a q n z => n (z.elim (fun z => .inl (.inl z)) .inr)
  get := fun n a h => h
theorem wd_del {o' : HO} (W : Wd κ (fun a => B a ∨ a = D) ρ st H) (hB : ∀ a, B a → a ≠ D) (h : H D = some o') (nt : ∀ xs, o' ≠ .tup xs) (nf : ∀ q u, o' ≠ .frz q u) : Wd κ B ρ st (del H D) where
  len := W.len
  nd := W.nd
  dom := fun a ha => by rw [del_ne (hB a ha)]; exact W.dom a (.inl ha)
  sep := fun a ha z => W.sep a ha (.inl z)
  ob := fun n q a h1 h2 => (W.ob n q a h1 h2).mono (mono_del h nt nf) (del_ne fun z => W.sep a (List.mem_of_getElem? h2) (.inr z))
end
theorem wipe_env {F : Addr → Prop} {ρ : List Addr} {H : Hp} {σp : Env} {σ : St} (R : REnv κ F ρ H σp σ) : ∀ own : List Nat, REnv κ F ρ H (D.wipe σp own) (L2.wipe σ own)
  | [] => R
  | v :: vs => by
    have ih := wipe_env R vs
    refine ⟨by simp [D.wipe, L2.wipe, ih.1], fun i p e => ?_⟩
    simp only [D.wipe] at e
    by_cases h : i = v
    · subst h
      have hl := (List.getElem?_eq_some_iff.mp e).1
      rw [List.length_set] at hl
      rw [List.getElem?_set_self hl] at e
      cases e
    · rw [List.getElem?_set_ne (Ne.symm h)] at e
      obtain ⟨w, e1, r⟩ := ih.2 i p e
      exact ⟨w, by simp only [L2.wipe]; rw [List.getElem?_set_ne (Ne.symm h)]; exact e1, r⟩
/-- a target that stores the block's names alone -/
def Keeps (own : List Nat) (tg : Expr) (t : DTg) (Γ : Pg) (N : List Str) (sc : Scope) : Prop := ∀ (n : Nat) (c fa : Nat → Addr) (G : Fr) (X : Cx), Good Γ n c fa G N sc X → ∃ gg : TG, PG X tg gg ∧
  ∀ v σ H Q, tG (cnOf X c) G (callN Γ.tbl n) t v σ H Q → gg v σ H fun σ2 H2 => L2.wipe σ2 own = L2.wipe σ own ∧ Q σ2 H2
def Keep2 (own : List Nat) (tgs : List Expr) (ts : List DTg) (Γ : Pg) (N : List Str) (sc : Scope) : Prop := ∀ (n : Nat) (c fa : Nat → Addr) (G : Fr) (X : Cx), Good Γ n c fa G N sc X → ∃ gg : TGs, PGs X tgs gg ∧
  ∀ v σ H Q, tGs (cnOf X c) G (callN Γ.tbl n) ts v σ H Q → gg v σ H fun σ2 H2 => L2.wipe σ2 own = L2.wipe σ own ∧ Q σ2 H2
theorem wipe_set {σ : St} {i : Nat} {v : Option V} : ∀ {own : List Nat}, i ∈ own → L2.wipe (σ.set i v) own = L2.wipe σ own
  | [], h => by cases h
  | w :: vs, h => by
    simp only [L2.wipe]
    by_cases e : i = w
    · subst e
      by_cases h2 : i ∈ vs
      · rw [wipe_set h2]
      · have : ∀ (us : List Nat), i ∉ us → L2.wipe (σ.set i v) us = (L2.wipe σ us).set i v := by
          intro us hu
          induction us with
          | nil => rfl
          | cons u us ih =>
            simp only [L2.wipe]
            have hne : i ≠ u := fun z => hu (z ▸ List.mem_cons_self)
            rw [ih fun z => hu (List.mem_cons_of_mem _ z), List.set_comm _ _ hne]
        rw [this vs h2, List.set_set]
    · rw [wipe_set ((List.mem_cons.mp h).resolve_left e)]
def okO (N : List Str) (sc : Scope) (i : Nat) (x : Str) : Bool := decide (N[i]? = some x) && decide (sc.names.lookup x = some .local)
theorem Keeps.tn {own : List Nat} {i : Nat} {x : Str} (h : okO N sc i x = true) (hi : i ∈ own) : Keeps own (.Name x pos) (D.tn i) Γ N sc := fun n c fa G X g => by
  unfold okO at h
  simp only [Bool.and_eq_true, decide_eq_true_eq] at h
  have hl : X.env.scope.names.lookup x = some .local := by rw [g.hsc]; exact h.2
  refine ⟨_, pg_name (i := i) g.nd (by rw [g.hN]; exact h.1) (.inl hl) (.inr hl), ?_⟩
  rintro v σ H Q ⟨ρ, st, σp, p, A, R, r, o⟩
  exact ⟨wipe_set hi, o.ret A _ (R.set r)⟩
theorem Keep2.nil {own : List Nat} : Keep2 own [] [] Γ N sc := fun n c fa G X g => by
  refine ⟨_, pgs_nil, ?_⟩
  rintro vs σ H Q ⟨ρ, st, σp, ps, A, R, r, o⟩
  cases ps with
  | nil =>
    simp only [RVs] at r
    have o : Out (cnOf X c) G ρ H (.ok σp st) _ := o
    exact ⟨r, rfl, o.ret A σ R⟩
  | cons q qs => exact (show False from o).elim
theorem gs_mono {X : Cx} {tgs : List Expr} {gg : TGs} (h : PGs X tgs gg) : PGs X tgs (fun v σ H Q => ∃ Q', gg v σ H Q' ∧ ∀ σ H, Q' σ H → Q σ H) := ⟨fun pins s σ H v u Q I r ⟨Q', q, i⟩ => thn (h.run pins s σ H v u Q' I r q) fun _ _ ⟨σ', H', I', q'⟩ => ⟨σ', H', I', i σ' H' q'⟩⟩
theorem g_mono {X : Cx} {tg : Expr} {gg : TG} (h : PG X tg gg) : PG X tg (fun v σ H Q => ∃ Q', gg v σ H Q' ∧ ∀ σ H, Q' σ H → Q σ H) := ⟨fun pins s σ H v u Q I r ⟨Q', q, i⟩ => thn (h.run pins s σ H v u Q' I r q) fun _ _ ⟨σ', H', I', q'⟩ => ⟨σ', H', I', i σ' H' q'⟩⟩
theorem Keep2.cons {own : List Nat} {t : DTg} {ts : List DTg} (h : Keeps own e t Γ N sc) (hs : Keep2 own es ts Γ N sc) (ha : ∀ env, (assignEach (e :: es) env).map (·.2) = assign e env :: (assignEach es env).map (·.2) := by intro _; rfl) : Keep2 own (e :: es) (t :: ts) Γ N sc := fun n c fa G X g => by
  obtain ⟨g1, p1, k1⟩ := h n c fa G X g
  obtain ⟨g2, p2, k2⟩ := hs n c fa G X g
  refine ⟨_, pgs_cons (g_mono p1) (gs_mono p2) (ha _), ?_⟩
  rintro vs σ H Q ⟨ρ, st, σp, ps, A, R, r, o⟩
  cases ps with
  | nil => exact (show False from o).elim
  | cons q qs =>
    have o : Out (cnOf X c) G ρ H ((t (callN Γ.tbl n) q σp st).bind fun σ st => D.tts ts (callN Γ.tbl n) qs σ st) _ := o
    simp only [RVs] at r
    obtain ⟨v, vr, rfl, r1, r2⟩ := r
    refine ⟨v, vr, rfl, _, k1 v σ H (fun σ1 H1 => tGs (cnOf X c) G (callN Γ.tbl n) ts vr σ1 H1 Q) ⟨ρ, st, σp, q, A, R, r1, o.bind.mono fun σp1 st1 ρ1 H1 e1 A1 o1 σ1 R1 => ?_⟩, fun σ1 H1 q => ?_⟩
    · exact ⟨ρ1, st1, σp1, qs, A1, R1, r2.mono e1.mono, o1⟩
    · exact ⟨_, k2 vr σ1 H1 Q q.2, fun σ2 H2 q2 => ⟨q2.1.trans q.1, q2.2⟩⟩
theorem Keeps.tt {own : List Nat} {kk m : Nat} {ts : List DTg} (h : Keep2 own es ts Γ N sc) (hm : ts.length = m) (hn : ∀ env, (assignEach es env).length = m := by intro _; rfl) (hst : ∀ env, (assignEach es env).findIdx? (·.1) = none := by intro _; rfl) : Keeps own (.Tuple es kk pos) (D.tt ts) Γ N sc := fun n c fa G X g => by
  obtain ⟨g2, p2, k2⟩ := h n c fa G X g
  refine ⟨_, PG_or (pg_tup g.calm p2 (hn _) (hst _)) (pg_lst g.calm p2 (hn _) (hst _)), ?_⟩
  rintro v σ H Q ⟨ρ, st, σp, p, A, R, r, o⟩
  have rd := RR.of A.wd r
  unfold D.tt at o
  split at o
  · rename_i xs eq
    split at o
    · rename_i hl
      have hl := Nat.eq_of_beq_eq_true hl
      rw [eq] at rd
      obtain ⟨a', vs, rfl, h1, r1⟩ := rr_tup rd
      exact .inl ⟨a', vs, rfl, h1, by rw [← r1.length, hl, hm], k2 vs σ H Q ⟨ρ, st, σp, xs, A, R, r1, o⟩⟩
    · exact o.elim
  · rename_i xs eq
    split at o
    · rename_i hl
      have hl := Nat.eq_of_beq_eq_true hl
      rw [eq] at rd
      obtain ⟨a', vs, rfl, h1, r1⟩ := rr_lst rd
      exact .inr ⟨a', vs, rfl, SqL.of h1, by rw [← r1.length, hl, hm], k2 vs σ H Q ⟨ρ, st, σp, xs, A, R, r1, o⟩⟩
    · exact o.elim
  · exact o.elim
end
end Dn

/-! The rule of list comprehensions. -/
namespace Dn
open PySem L2
section
variable {Γ : Pg} {n : Nat} {c fa : Nat → Addr} {G : Fr} {N : List Str} {sc scope : Scope} {X : Cx} {κ : Cn} {cs : CS}
variable {a b e d tg iter elt : Expr} {da db dd de : DE} {pos p : Pos} {es : List Expr} {ds : DEs}
def FinR {α : Type} (P : α → Store → Prop) : Res α → Prop
  | .ok a st => P a st
  | _ => False
theorem fin_bind {α β : Type} {r : Res α} {f : α → Store → Res β} {P : β → Store → Prop} {D : Addr} {ρ : List Addr} {H : Hp} (h : FinR P (r.bind f)) : Out κ (G.blk D) ρ H r fun a st _ _ => FinR P (f a st) := by
  cases r with
  | ok a st => exact fun _ _ _ _ => h
  | exc e st => exact h
  | bad => exact h
theorem wipe2 {σ : St} : ∀ own : List Nat, L2.wipe (L2.wipe σ own) own = L2.wipe σ own
  | [] => rfl
  | v :: vs => by
    show L2.wipe ((L2.wipe σ vs).set v none) (v :: vs) = _
    rw [wipe_set List.mem_cons_self]
    show (L2.wipe (L2.wipe σ vs) vs).set v none = _
    rw [wipe2 vs]
    rfl
/-- a target of the block's names, its reading -/
def gW (own : List Nat) (κ : Cn) (G : Fr) (cs : CS) (t : DTg) : TG := fun v σ H Q => ∃ Q' : St → Hp → Prop, tG κ G cs t v σ H Q' ∧ ∀ σ2 H2, L2.wipe σ2 own = L2.wipe σ own → Q' σ2 H2 → Q σ2 H2
theorem Keeps.pg {own : List Nat} {t : DTg} (h : Keeps own tg t Γ N sc) (g : Good Γ n c fa G N sc X) : PG X tg (gW own (cnOf X c) G (callN Γ.tbl n) t) := by
  obtain ⟨gg, h1, h2⟩ := h n c fa G X g
  exact PG_imp (g_mono h1) fun v σ H Q ⟨Q', q, i⟩ => ⟨_, h2 v σ H Q' q, fun σ2 H2 z => i σ2 H2 z.1 z.2⟩
theorem PE_ex {X : Cx} {e : Expr} {ι : Type} {t : ι → TE} (h : ∀ i, PE X e (t i)) : PE X e (fun σ H Q => ∃ i, t i σ H Q) := ⟨fun pins s σ H Q I ⟨i, q⟩ => (h i).run pins s σ H Q I q⟩
theorem PTs_ex {X : Cx} {e : List Expr} {ι : Type} {t : ι → TT} (h : ∀ i, PTs X e (t i)) : PTs X e (fun σ H Q => ∃ i, t i σ H Q) := ⟨fun pins s σ H Q I ⟨i, q⟩ => (h i).run pins s σ H Q I q⟩
theorem PG_ex {X : Cx} {e : Expr} {ι : Type} {t : ι → TG} (h : ∀ i, PG X e (t i)) : PG X e (fun v σ H Q => ∃ i, t i v σ H Q) := ⟨fun pins s σ H v u Q I r ⟨i, q⟩ => (h i).run pins s σ H v u Q I r q⟩
/-- at D, the block's list is not of the store -/
theorem blk_at {ρ : List Addr} {st : Store} {H : Hp} {D : Addr} (A : At κ (G.blk D) ρ st H) : D ∉ ρ := fun z => A.wd.sep D z (.inr rfl)
/-- the reading of a comprehension, whatever stands around it -/
theorem lc_imp {X : Cx} {ix : List Nat} {cs : CS} {ts : List DE} {it : DI} {tgd : DTg} : ∀ σ H Q, tF (cnOf X c) G cs (Dn.D.lc ix it tgd ts de) σ H Q →
    tLc (tI (cnOf X c) G cs it) (fun v σ H Q => ∃ D, gW ix (cnOf X c) (G.blk D) cs tgd v σ H Q) (fun σ H Q => ∃ D, tTs (cnOf X c) (G.blk D) cs ts σ H Q) (fun σ H Q => ∃ D, tE (cnOf X c) (G.blk D) cs de σ H Q) ix σ H Q := by
  rintro σ H Q ⟨ρ, st, σp, A, R, o⟩
  refine ⟨ρ, st, σp, A, R, o.bind.mono fun pr st1 ρ1 H1 e1 A1 o1 J hJ D hD => ?_⟩
  obtain ⟨xs, src⟩ := pr
  have hB : ∀ a, H1 a ≠ none → (G.blk D).B a → G.B a := fun a h z => z.elim id fun z => absurd (by rw [z]; exact hD) h
  have h0D : G.H0 D = none := A1.ext.free hD
  split at o1
  · rename_i hlen
    have hlen : xs.length ≤ 1000000 := hlen
    -- what is to come behind the turns
    let P : List PV → List PV → Store → Prop := fun acc ys st' => ∀ ρ' H' us, Ext ρ1 H1 ρ' H' → At (cnOf X c) (G.blk D) ρ' st' H' → RVs (cnOf X c) (Fo (G.blk D).B ρ') ρ' H' (acc ++ ys) us → H' D = some (.lst us) → Q (.ref D) H'
    let lp := Dn.D.lcL tgd ts de (cs) (Dn.D.wipe σp ix) src xs
    let W : Nat → Hp → Prop := fun i H => ∃ ρ st acc vs, Ext ρ1 H1 ρ H ∧ At (cnOf X c) (G.blk D) ρ st H ∧ REnv (cnOf X c) (Fo (G.blk D).B ρ) ρ H (Dn.D.wipe σp ix) (L2.wipe σ ix) ∧ H D = some (.lst vs) ∧ RVs (cnOf X c) (Fo (G.blk D).B ρ) ρ H acc vs ∧ acc.length ≤ i ∧
      FinR (P acc) (lp (xs.drop i) st)
    refine ⟨fun i m H => m = xs.length - i ∧ i ≤ xs.length ∧ W i H, ⟨xs.length, by simp, Nat.zero_le _, ρ1, st1, [], [], ext_new hD, ⟨wd_lay A1.wd hD, A1.ext.trans (ext_new hD)⟩, ((wipe_env R ix).mono e1.mono).mono (mono_lay hD), upd_same, RVs.nil, Nat.le_refl _, ?_⟩, ?_⟩
    · show FinR (P []) (lp xs st1)
      have o1 : Out (cnOf X c) G ρ1 H1 ((lp xs st1).calm.bind fun ys st => Res.ok (PV.lst ys) st) (fun v st' ρ' H' => ∃ ps, v = PV.lst ps ∧ ∀ us p, RVs (cnOf X c) (Fo G.B ρ') ρ' H' ps us → H' p = none → Q (V.ref p) (upd H' p (HO.lst us))) := o1
      cases q : lp xs st1 with
      | ok ys st' =>
        rw [q] at o1
        intro ρ' H' us e' A' r' hv
        have nt : ∀ xs, (HO.lst us) ≠ .tup xs := fun _ z => nomatch z
        have nf : ∀ q u, (HO.lst us) ≠ .frz q u := fun _ _ z => nomatch z
        have e2 := ext_del e' hD
        obtain ⟨ps, e3, k⟩ := o1 ρ' (del H' D) e2 ⟨wd_del A'.wd (fun a ha z => A1.wd.dom a ha (by rw [z]; exact hD)) hv nt nf, A1.ext.trans e2⟩
        cases e3
        have := k us D (r'.mono (mono_del hv nt nf)) del_at
        rw [upd_del hv] at this
        exact this
      | exc e st' => rw [q] at o1; exact o1
      | bad => rw [q] at o1; exact o1
    · rintro i m H2 ⟨rfl, hi, ρ2, st2, acc, vs, e2, A2, R2, hv, ra, hl, fin⟩
      have hi : i ≤ xs.length := hi
      by_cases hlt : i < xs.length
      · refine .inr ?_
        have hdrop : xs.drop i = xs[i] :: xs.drop (i + 1) := List.drop_eq_getElem_cons hlt
        rw [hdrop] at fin
        have fin : FinR (P acc) (if Dn.D.stands src xs st2 = true then (tgd (cs) xs[i] (Dn.D.wipe σp ix) st2).bind fun σ1 st => (Dn.D.tests ts (cs) σ1 st).bind fun b st =>
            if b = true then (de (cs) σ1 st).bind fun y st => (lp (xs.drop (i + 1)) st).bind fun ys st => .ok (y :: ys) st else lp (xs.drop (i + 1)) st else .bad) := fin
        split at fin
        · rename_i hs
          obtain ⟨go, yl⟩ := hJ.go (G.blk D).B i ρ2 st2 H2 hB e2 A2.wd hs hlt
          refine ⟨go, W (i + 1), fun H' w => ⟨xs.length - (i + 1), by omega, rfl, hlt, w⟩, fun x H3 hy => ?_⟩
          obtain ⟨e3, W3, pv, ep, rp⟩ := yl x H3 hy
          rw [List.getElem?_eq_getElem hlt] at ep
          cases ep
          have A3 := A2.step e3 W3
          refine ⟨D, _, ⟨ρ2, st2, Dn.D.wipe σp ix, xs[i], A3, R2.mono e3.mono, rp, (fin_bind fin).mono fun σ4 st4 ρ4 H4 e4 A4 f4 σ4' R4 => ?_⟩, fun σ5 H5 hw q => ⟨hw.trans (wipe2 ix), q⟩⟩
          refine ⟨D, ρ4, st4, σ4, A4, R4, (fin_bind f4).mono fun bb st5 ρ5 H5 e5 A5 f5 => ?_⟩
          have eAll := (e3.trans e4).trans e5
          -- the turn's end
          have turn : ∀ {ρ6 H6 st6}, Ext ρ5 H5 ρ6 H6 → At (cnOf X c) (G.blk D) ρ6 st6 H6 → H6 D = some (.lst vs) := fun {ρ6 H6 st6} e6 A6 => (eAll.trans e6).keep D _ hv (blk_at A6)
          cases bb
          rotate_left
          · show ∃ D, tE _ _ _ _ _ _ _
            have f5 : FinR (P acc) ((de (cs) σ4 st5).bind fun y st => (lp (xs.drop (i + 1)) st).bind fun ys st => .ok (y :: ys) st) := f5
            refine ⟨D, ρ5, st5, σ4, A5, R4.mono e5.mono, (fin_bind f5).mono fun y st6 ρ6 H6 e6 A6 f6 u ru => ?_⟩
            have hv6 := turn e6 A6
            have nt : ∀ xs, (HO.lst vs) ≠ .tup xs := fun _ z => nomatch z
            have nf : ∀ q u, (HO.lst vs) ≠ .frz q u := fun _ _ z => nomatch z
            have eA := eAll.trans e6
            refine ⟨vs, hv6, by rw [← ra.length]; exact Nat.lt_of_lt_of_le (by omega) (Nat.le_trans hlen big), ρ6, st6, acc ++ [y], vs ++ [u], ext_turn (e2.trans eA) hD, ⟨wd_turn A6.wd hv6 nt nf, ext_turn A6.ext h0D⟩, (R2.mono eA.mono).mono (mono_turn hv6 nt nf), upd_same, ?_, by simp; omega, ?_⟩
            · exact ((ra.mono eA.mono).append (RVs.cons ru RVs.nil)).mono (mono_turn hv6 nt nf)
            · show FinR (P (acc ++ [y])) (lp (xs.drop (i + 1)) st6)
              cases q : lp (xs.drop (i + 1)) st6 with
              | ok ys st7 =>
                rw [q] at f6
                intro ρ' H' us e' A' r' hv'
                have f6 : P acc (y :: ys) st7 := f6
                exact f6 ρ' H' us e' A' (by simpa using r') hv'
              | exc e st7 => rw [q] at f6; exact f6
              | bad => rw [q] at f6; exact f6
          · have f5 : FinR (P acc) (lp (xs.drop (i + 1)) st5) := f5
            exact ⟨ρ5, st5, acc, vs, e2.trans eAll, A5, R2.mono eAll.mono, turn Ext.refl A5, ra.mono eAll.mono, by omega, f5⟩
        · exact fin.elim
      · refine .inl ?_
        have hdrop : xs.drop i = [] := List.drop_eq_nil_of_le (Nat.le_of_not_lt hlt)
        rw [hdrop] at fin
        have fin : FinR (P acc) (if Dn.D.stands src xs st2 = true then .ok [] st2 else .bad) := fin
        split at fin
        · rename_i hs
          exact ⟨hJ.stop (G.blk D).B i ρ2 st2 H2 hB e2 A2.wd hs (Nat.le_of_not_lt hlt), fin ρ2 H2 vs e2 A2 (by simpa using ra) hv⟩
        · exact fin.elim
  · exact o1.elim
theorem SEF.lc {own : List (Str × Nat)} {ix : List Nat} {ifs : List Expr} {it : DI} {tgd : DTg} {ts : List DE} (ok : blkC N sc scope own = true) (hix : own.map (·.2) = ix) (hi : SI Γ N sc tg iter it) (ht : Keeps ix tg tgd Γ N (relSc scope sc))
    (hts : STs Γ N (relSc scope sc) ifs ts) (he : SE Γ N (relSc scope sc) elt de) (hfs : ∀ env x, foldedSetIterable iter env x = pure x := by intro _ _; rfl) :
    SEF Γ N sc (.ListComp elt [⟨tg, iter, ifs, 0⟩] scope pos) (Dn.D.lc ix it tgd ts de) := fun n c fa G X g => by
  subst hix
  exact (pe_lc g.calm g.nd (hi n c fa G X g) (by rw [g.hN, g.hsc]; exact blkOk_by ok) (fun s H C cl fp => PG_ex fun D : Addr => ht.pg (g.blk ok D s H C cl fp)) (fun s H C cl fp => PTs_ex fun D : Addr => hts.pts (g.blk ok D s H C cl fp))
    (fun s H C cl fp => PE_ex fun D : Addr => he n c fa _ _ (g.blk ok D s H C cl fp)) (hfs _)).imp lc_imp
theorem lo_lc {ix : List Nat} {it : DI} {tgd : DTg} {ts : List DE} : LstOnly (Dn.D.lc ix it tgd ts de) := fun cs σ st v st' h => lstOnly_bind h fun a st1 _ q => by
  split at q
  · exact lstOnly_bind q fun ys st2 _ q => by cases q; exact ⟨_, rfl⟩
  · cases q
end
end Dn

/-! Dict displays. -/
namespace Dn
open PySem L2
section
variable {Γ : Pg} {n : Nat} {c fa : Nat → Addr} {G : Fr} {N : List Str} {sc : Scope} {X : Cx} {κ : Cn} {cs : CS}
variable {a b e : Expr} {da db d : DE} {pos : Pos}
theorem Good.lay (g : Good Γ n c fa G N sc X) (D : Addr) : Good Γ n c fa (G.blk D) N sc X := ⟨g.hN, g.hsc, g.nd, g.calm, g.room, g.ng, g.env, by rw [exk_never fun e st z => z]; exact passL, g.po, g.kind⟩
/-- a part of a display, whatever dict is being filled -/
abbrev tIn (κ : Cn) (G : Fr) (cs : CS) (d : DE) : TE := fun σ H Q => ∃ D, tE κ (G.blk D) cs d σ H Q
theorem SE.inn (h : SE Γ N sc e d) (g : Good Γ n c fa G N sc X) : PE X e (tIn (cnOf X c) G (callN Γ.tbl n) d) := PE_ex fun D => h n c fa (G.blk D) X (g.lay D)
/-- the parts of a display, proved one by one -/
inductive SPs (Γ : Pg) (N : List Str) (sc : Scope) : List (Option Expr) → List Expr → List (DE × DE) → Prop
  | nil : SPs Γ N sc [] [] []
  | cons {k v : Expr} {dk dv : DE} {ks : List (Option Expr)} {vs : List Expr} {ds : List (DE × DE)} : SE Γ N sc k dk → SE Γ N sc v dv → SPs Γ N sc ks vs ds → SPs Γ N sc (some k :: ks) (v :: vs) ((dk, dv) :: ds)
abbrev trsOf (κ : Cn) (G : Fr) (cs : CS) (ds : List (DE × DE)) : List (TE × TE) := ds.map fun d => (tIn κ G cs d.1, tIn κ G cs d.2)
theorem SPs.pps {ks : List (Option Expr)} {vs : List Expr} {ds : List (DE × DE)} (h : SPs Γ N sc ks vs ds) (g : Good Γ n c fa G N sc X) : PPs X pos ks vs (trsOf (cnOf X c) G (callN Γ.tbl n) ds) := by
  induction h with
  | nil => exact pps_nil
  | cons h1 h2 _ ih => exact pps_cons (h1.inn g) (h2.inn g) ih
theorem SPs.len {ks : List (Option Expr)} {vs : List Expr} {ds : List (DE × DE)} (h : SPs Γ N sc ks vs ds) : ks.length = vs.length ∧ ks.length = ds.length ∧ ks.all (·.isSome) = true := by
  induction h with
  | nil => exact ⟨rfl, rfl, rfl⟩
  | cons _ _ _ ih => exact ⟨by simp [ih.1], by simp [ih.2.1], by simp [ih.2.2]⟩
/-- what the dict's pairs are wanted for -/
abbrev PK (κ : Cn) (G : Fr) (p : Addr) (ρ1 : List Addr) (H1 : Hp) (Q : VK) : List (PV × PV) → Store → Prop := fun kvs st' => ∀ ρ' H' es, Ext ρ1 H1 ρ' H' → At κ (G.blk p) ρ' st' H' → H' p = some (.dK []) → RKs κ (Fo (G.blk p).B ρ') ρ' H' kvs es → Q (.ref p) (upd H' p (.dK es))
theorem disp_k {p : Addr} {ρ1 : List Addr} {H1 : Hp} {Q : VK} {σ : St} {σp : Env} : ∀ {ds : List (DE × DE)} {acc : List (PV × PV)} {es : List (Key × V)} {ρ : List Addr} {st : Store} {H : Hp} {K : List (V × V) → Hp → Prop}, At κ (G.blk p) ρ st H → REnv κ (Fo (G.blk p).B ρ) ρ H σp σ → Ext ρ1 H1 ρ H → H p = some (.dK []) → RKs κ (Fo (G.blk p).B ρ) ρ H acc es →
    FinR (PK κ G p ρ1 H1 Q) (D.dictL false ds acc cs σp st) → (∀ (kvs : List (Key × V)) H2, H2 p = some (.dK []) → kvs.length = ds.length → Q (.ref p) (upd H2 p (.dK (mergeK es kvs))) → K (kvs.map fun kv => (kV kv.1, kv.2)) H2) → tPairs (trsOf κ G cs ds) σ H K
  | [], acc, es, ρ, st, H, K, A, R, E, hp, ra, f, hK => hK [] H hp rfl (f ρ H es E A hp ra)
  | (dk, dv) :: ds, acc, es, ρ, st, H, K, A, R, E, hp, ra, f, hK => by
    have f : FinR (PK κ G p ρ1 H1 Q) ((dk cs σp st).bind fun x st => (dv cs σp st).bind fun y st => if keyT false x then D.dictL false ds (put x y acc) cs σp st else .bad) := f
    refine ⟨p, ρ, st, σp, A, R, (fin_bind f).mono fun x st1 ρ2 H2 e1 A1 f1 kx rx => ?_⟩
    refine ⟨p, ρ2, st1, σp, A1, R.mono e1.mono, (fin_bind f1).mono fun y st2 ρ3 H3 e2 A2 f2 vy ry => ?_⟩
    have E3 := (e1.trans e2)
    have hp3 : H3 p = some (.dK []) := E3.keep p _ hp fun z => A2.wd.sep p z (.inr rfl)
    split at f2
    · rename_i hk
      obtain ⟨kk, ek⟩ := keyT_false hk
      have := rv_key ek (rx.mono (e2.mono (κ := κ) (B := (G.blk p).B)))
      subst this
      exact disp_k A2 (R.mono E3.mono) (E.trans E3) hp3 ((ra.mono E3.mono).put ek ry) f2 fun kvs H4 q1 q3 q4 => hK ((kk, vy) :: kvs) H4 q1 (by rw [List.length_cons, q3]; rfl) q4
    · exact f2.elim
abbrev PT (κ : Cn) (G : Fr) (p : Addr) (ρ1 : List Addr) (H1 : Hp) (Q : VK) : List (PV × PV) → Store → Prop := fun kvs st' => ∀ ρ' H' es, Ext ρ1 H1 ρ' H' → At κ (G.blk p) ρ' st' H' → H' p = some (dTO κ p []) → RTs κ (Fo (G.blk p).B ρ') ρ' H' kvs es → Q (.ref p) (upd H' p (dTO κ p es))
theorem KeyRs.mono {F F' : Addr → Prop} {ρ ρ' : List Addr} {H H' : Hp} {l : List E3} (m : Mono κ F ρ H F' ρ' H') (h : KeyRs κ F ρ H l) : KeyRs κ F' ρ' H' l := fun x hx => let ⟨k, a, b, r⟩ := h x hx; ⟨k, a, b, r.mono m⟩
theorem disp_t {p : Addr} {ρ1 : List Addr} {H1 : Hp} {Q : VK} {σ : St} {σp : Env} : ∀ {ds : List (DE × DE)} {acc : List (PV × PV)} {es bf : List E3} {ρ : List Addr} {st : Store} {H : Hp} {K : List (V × V) → Hp → Prop}, At κ (G.blk p) ρ st H → REnv κ (Fo (G.blk p).B ρ) ρ H σp σ → Ext ρ1 H1 ρ H → H p = some (dTO κ p []) → RTs κ (Fo (G.blk p).B ρ) ρ H acc es →
    KeyRs κ (Fo (G.blk p).B ρ) ρ H bf → FinR (PT κ G p ρ1 H1 Q) (D.dictL true ds acc cs σp st) → (∀ (l : List E3) H2 F ρ, H2 p = some (dTO κ p []) → l.length = ds.length → KeyRs κ F ρ H2 (bf ++ l) → Q (.ref p) (upd H2 p (dTO κ p (putAll es l))) → K (l.map fun q => (.ref q.2.1, q.2.2)) H2) → tPairs (trsOf κ G cs ds) σ H K
  | [], acc, es, bf, ρ, st, H, K, A, R, E, hp, ra, kr, f, hK => hK [] H _ _ hp rfl (by rw [List.append_nil]; exact kr) (f ρ H es E A hp ra)
  | (dk, dv) :: ds, acc, es, bf, ρ, st, H, K, A, R, E, hp, ra, kr, f, hK => by
    have f : FinR (PT κ G p ρ1 H1 Q) ((dk cs σp st).bind fun x st => (dv cs σp st).bind fun y st => if keyT true x then D.dictL true ds (put x y acc) cs σp st else .bad) := f
    refine ⟨p, ρ, st, σp, A, R, (fin_bind f).mono fun x st1 ρ2 H2 e1 A1 f1 kx rx => ?_⟩
    refine ⟨p, ρ2, st1, σp, A1, R.mono e1.mono, (fin_bind f1).mono fun y st2 ρ3 H3 e2 A2 f2 vy ry => ?_⟩
    have E3' := (e1.trans e2)
    have hp3 : H3 p = some (dTO κ p []) := E3'.keep p _ hp fun z => A2.wd.sep p z (.inr rfl)
    split at f2
    · rename_i hk
      have rx2 := rx.mono (e2.mono (κ := κ) (B := (G.blk p).B))
      have hk' := hk
      cases x <;> simp only [keyT, if_true, Bool.false_eq_true] at hk'
      obtain ⟨nk, ek, d8⟩ := keyOk_nk 8 _ hk'
      have rx3 := rx2
      simp only [RV] at rx3
      obtain ⟨kb, kvs', rfl, h4, h5⟩ := rx3
      refine disp_t (bf := bf ++ [(nk, kb, vy)]) A2 (R.mono E3'.mono) (E.trans E3') hp3 ((ra.mono E3'.mono).put ek rx2 ry) (fun x hx => ?_) f2 fun l H4 F' ρ' q1 q3 q5 q4 => hK ((nk, kb, vy) :: l) H4 F' ρ' q1 (by rw [List.length_cons, q3]; rfl) (by rw [List.append_assoc] at q5; exact q5) q4
      rcases List.mem_append.mp hx with z | z
      · exact (kr.mono E3'.mono) x z
      · rw [List.mem_singleton.mp z]; exact ⟨_, hk, ek, rx2⟩
    · exact f2.elim
/-! the display itself, keys that are tuples -/
def tDispT (X : Cx) (c : Nat → Addr) (trs : List (TE × TE)) : TE := fun σ H Q => ∀ p, H p = none → tPairs trs σ (upd H p (dTO (cnOf X c) p [])) fun ps H2 => H2 p = some (dTO (cnOf X c) p []) ∧ ∃ (F : Addr → Prop) (ρ : List Addr) (l : List E3), ps = l.map (fun q => (.ref q.2.1, q.2.2)) ∧ KeyRs (cnOf X c) F ρ H2 l ∧ l.length ≤ 15 ∧ Q (.ref p) (upd H2 p (dTO (cnOf X c) p (putAll [] l)))
theorem carriesT {pins : List (Addr × Obj)} {σ : St} {H : Hp} {s : Shared} {F : Addr → Prop} {ρ : List Addr} (I : Inv X pins σ H s) : ∀ {l : List E3} {ws : List (Value × Value)}, VV (l.map fun q => (.ref q.2.1, q.2.2)) ws → KeyRs (cnOf X c) F ρ H l → ∃ zs, CarriesH (nestedKind X.prog X.w) s.heap ws zs ∧ Paired EV l zs
  | [], _, r, _ => by rw [List.map_nil] at r; cases r; exact ⟨[], True.intro, .nil⟩
  | q :: l, _, r, k => by
    rw [List.map_cons] at r
    cases r with
    | @cons a b as bs h t =>
      obtain ⟨zs, z1, z2⟩ := carriesT I t fun x hx => k x (List.mem_cons_of_mem _ hx)
      obtain ⟨b1, b2⟩ := b
      obtain ⟨h1, h2⟩ := h
      cases h1
      exact ⟨(q.1, q.2.1, b2) :: zs, ⟨rfl, rfl, (keyRs_is I k q List.mem_cons_self).1, z1⟩, .cons ⟨rfl, rfl, h2⟩ z2⟩
theorem pe_dispT {keys : List (Option Expr)} {values : List Expr} {trs : List (TE × TE)} (hu : X.A.units + 64 < cLine) (h : PPs X pos keys values trs) (hall : keys.all (·.isSome) = true) (hl : keys.length = values.length) (h0 : keys ≠ []) (h15 : keys.length ≤ 15) : PE X (.Dict keys values pos) (tDispT X c trs) := by
  refine ⟨fun pins s σ H Q I q => ?_⟩
  have hn := I.hok.fresh (Nat.le_refl s.heap.objs.size)
  have hm : (s.heap.objs.size == sysModules) = false := beq_eq_false_iff_ne.mpr (Nat.ne_of_gt I.big)
  have I1 := I.laid (a := s.heap.objs.size) (o := dTO (cnOf X c) s.heap.objs.size []) (h' := s.heap.push { cls := .type "dict", data := .dict #[] }) (t' := s.toks) (fun _ _ q => Heap.get?_push_of_some _ q) (Nat.le_refl _) (dT_empty rfl rfl hm (Heap.get?_push_size _ rfl))
  have hp := pairTrees_length keys values X.env pos hall hl
  have hne : pairTrees keys values X.env pos ≠ [] := fun he => by rw [he] at hp; exact h0 (List.length_eq_zero_iff.mp hp.symm)
  rw [arm_eval_Dict, zip_pairTrees keys values X.env pos hall hl, dictDisplay_pairs _ hne (by omega)]
  refine wpAny_bind (wpAny_standAt (wpAny_bind (wpAny_subDictH (knd := nestedKind X.prog X.w) (Q := fun d s' => wpAny (model X.prog X.w) X.A (pure (Value.ref d)) (EP X pins σ Q) X.xe s') (by show X.A.units + 8 < cLine; omega) (by omega)
    (thn (h.run pins _ σ _ _ I1 (q _ hn)) fun ws s2 ⟨ps, H2, I2, rel, e, F, ρ, l, ep, kr, lk, q2⟩ => ?_))))
  subst ep
  obtain ⟨zs, z1, z2⟩ := carriesT I2 rel kr
  obtain ⟨ys, dd, pe, _, _, _⟩ := dT_of (kvs := []) (F := F) (ρ := ρ) I2 e (by simp only [RTs])
  cases pe
  refine ⟨zs, z1, dd, fun h' tk dd' hs => wpAny_pure ⟨.ref s.heap.objs.size, _, ?_, rfl, q2⟩⟩
  have hlen : (putAll [] l).length ≤ sizeLine := by
    have h1 := putAll_len l []
    rw [List.length_nil] at h1
    rw [sizeLine_eq]; omega
  have he : ∃ q, h'.get? s.heap.objs.size = some q := let ⟨q, _, _, hq, _⟩ := dd'; ⟨q, hq⟩
  exact I2.write (t' := tk) (x := s.heap.objs.size) (e := s.heap.objs.size) (o := dTO (cnOf X c) s.heap.objs.size (putAll [] l)) (by rw [e]; exact trivial) (.inl rfl) (fun b u hb e => (hs.2 b hb).trans e) he
    (dT_ok (κ := cnOf X c) rfl rfl hm hlen (putAll_deep (fun x hx => by simp at hx) fun x hx => (keyRs_is I2 kr x hx).2) (putAll_of z2 .nil) dd')
/-! the rules -/
theorem fin_calm {α : Type} {r : Res α} {ρ : List Addr} {H : Hp} {f : α → Store → Res PV} {P : PV → Store → List Addr → Hp → Prop} (o : Out κ G ρ H (r.calm.bind f) P) : FinR (fun a st => Out κ G ρ H (f a st) P) r := by
  cases r with
  | ok a st => exact o
  | exc e st => exact o
  | bad => exact o
theorem SED.dictK {ks : List (Option Expr)} {vs : List Expr} {ds : List (DE × DE)} (h : SPs Γ N sc ks vs ds) (h0 : ks ≠ []) (h15 : ks.length ≤ 15) : SED Γ N sc (.Dict ks vs pos) (D.dict false ds) := fun n c fa G X g => by
  obtain ⟨l1, l2, l3⟩ := h.len
  refine (pe_disp (h.pps g) l3 l1 h0 h15).imp ?_
  rintro σ H Q ⟨ρ, st, σp, A, R, o⟩ p hp
  have A1 : At (cnOf X c) (G.blk p) ρ st (upd H p (.dK [])) := ⟨wd_lay A.wd hp, A.ext.trans (ext_new hp)⟩
  have f := fin_calm o
  have nt : ∀ xs, (HO.dK []) ≠ .tup xs := fun _ z => nomatch z
  have nf : ∀ q u, (HO.dK []) ≠ .frz q u := fun _ _ z => nomatch z
  refine disp_k (Q := Q) (ρ1 := ρ) (H1 := upd H p (.dK [])) (acc := []) (es := []) A1 (R.mono (mono_lay hp)) Ext.refl upd_same (by simp only [RKs]) ?_ fun kvs H2 q1 q2 q3 => ⟨q1, kvs, rfl, by omega, q3⟩
  cases q : D.dictL false ds [] (callN Γ.tbl n) σp st with
  | ok kvs st' =>
    rw [q] at f
    intro ρ' H' es e' A' hv r
    have e2 : Ext ρ H ρ' (del H' p) := ext_del ((ext_new hp).trans e') hp
    have o2 := f
    dsimp only [FinR, Out] at o2
    obtain ⟨t, k2, ez, k3, _⟩ := o2 ρ' (del H' p) e2 ⟨wd_del A'.wd (fun a ha z => A.wd.dom a ha (by rw [z]; exact hp)) hv nt nf, A.ext.trans e2⟩
    cases ez
    have := k3 rfl es p (r.mono (mono_del hv nt nf)) del_at
    have ee : upd (del H' p) p (.dK es) = upd H' p (.dK es) := by
      funext a
      by_cases z : a = p
      · subst z; rw [upd_same, upd_same]
      · rw [upd_ne z, upd_ne z, del_ne z]
    rw [ee] at this
    exact this
  | exc e st' => rw [q] at f; exact f
  | bad => rw [q] at f; exact f
theorem SED.dictT {ks : List (Option Expr)} {vs : List Expr} {ds : List (DE × DE)} (h : SPs Γ N sc ks vs ds) (h0 : ks ≠ []) (h15 : ks.length ≤ 15) : SED Γ N sc (.Dict ks vs pos) (D.dict true ds) := fun n c fa G X g => by
  obtain ⟨l1, l2, l3⟩ := h.len
  refine (pe_dispT (c := c) g.u64 (h.pps g) l3 l1 h0 h15).imp ?_
  rintro σ H Q ⟨ρ, st, σp, A, R, o⟩ p hp
  have A1 : At (cnOf X c) (G.blk p) ρ st (upd H p (dTO (cnOf X c) p [])) := ⟨wd_lay A.wd hp, A.ext.trans (ext_new hp)⟩
  have f := fin_calm o
  have nt : ∀ xs, (dTO (cnOf X c) p []) ≠ .tup xs := fun _ z => nomatch z
  have nf : ∀ q u, (dTO (cnOf X c) p []) ≠ .frz q u := fun _ _ z => nomatch z
  refine disp_t (Q := Q) (ρ1 := ρ) (H1 := upd H p (dTO (cnOf X c) p [])) (acc := []) (es := []) (bf := []) A1 (R.mono (mono_lay hp)) Ext.refl upd_same (by simp only [RTs]) (fun x hx => by simp at hx) ?_ fun l H2 F' ρ' q1 q2 q4 q3 => ⟨q1, F', ρ', l, rfl, q4, by omega, q3⟩
  cases q : D.dictL true ds [] (callN Γ.tbl n) σp st with
  | ok kvs st' =>
    rw [q] at f
    intro ρ' H' es e' A' hv r
    have e2 : Ext ρ H ρ' (del H' p) := ext_del ((ext_new hp).trans e') hp
    have o2 := f
    dsimp only [FinR, Out] at o2
    obtain ⟨t, k2, ez, _, k3⟩ := o2 ρ' (del H' p) e2 ⟨wd_del A'.wd (fun a ha z => A.wd.dom a ha (by rw [z]; exact hp)) hv nt nf, A.ext.trans e2⟩
    cases ez
    have := k3 rfl es p (r.mono (mono_del hv nt nf)) del_at
    have ee : upd (del H' p) p (dTO (cnOf X c) p es) = upd H' p (dTO (cnOf X c) p es) := by
      funext a
      by_cases z : a = p
      · subst z; rw [upd_same, upd_same]
      · rw [upd_ne z, upd_ne z, del_ne z]
    rw [ee] at this
    exact this
  | exc e st' => rw [q] at f; exact f
  | bad => rw [q] at f; exact f
end
end Dn

/-! Dict comprehensions whose keys are tuples. -/
namespace Dn
open PySem L2
section
variable {Γ : Pg} {n : Nat} {c fa : Nat → Addr} {G : Fr} {N : List Str} {sc scope : Scope} {X : Cx} {κ : Cn} {cs : CS}
/-- d[k] = v of the dict that is being made -/
theorem put_dT {pins : List (Addr × Obj)} {σ : St} {H : Hp} {s : Shared} {E : Value → Shared → Prop} {D : Addr} {es : List E3} {kvs : List (PV × PV)} {F : Addr → Prop} {ρ : List Addr} {k : PV} {nk : NestedKey} {b : Addr} {v : V} {u r : Value} {Q : Unit → Shared → Prop} (hu : X.A.units + 64 < cLine) (I : Inv X pins σ H s) (hD : H D = some (dTO (cnOf X c) D es)) (rt : RTs (cnOf X c) F ρ H kvs es) (hz : es.length < sizeLine)
    (hk : keyT true k = true) (ek : toNK k = some nk) (rk : RV (cnOf X c) F ρ H k (.ref b)) (ry : RelV (.ref b) u) (rv : RelV v r) (h : ∀ s', Inv X pins σ (upd H D (dTO (cnOf X c) D (putT es nk b v))) s' → Q () s') : wpAny (model X.prog X.w) X.A (dictSet D u r) Q E s := by
  obtain ⟨nk', b', e1, d8, e2, e3, is⟩ := key_is I hk rk ry
  rw [ek] at e1
  cases e1
  cases e2
  subst e3
  obtain ⟨ys, dd, pe, sys, _, deep⟩ := dT_of I hD rt
  have hlen : ys.length = es.length := (Paired.length pe).symm
  refine wpAny_dictSet_heap (knd := nestedKind X.prog X.w) (hsz := by rw [hlen]; exact Nat.le_of_lt hz) (by show X.A.units + 8 < cLine; omega) is dd fun h' dd' hs => h _ ?_
  have he : ∃ q, h'.get? D = some q := let ⟨q, _, _, hq, _⟩ := dd'; ⟨q, hq⟩
  exact I.write (t' := _) (x := D) (e := D) (o := dTO (cnOf X c) D (putT es nk b v)) (by rw [hD]; exact trivial) (.inl rfl) (fun b u hb e => (hs.2 b hb).trans e) he
    (dT_ok (κ := cnOf X c) rfl rfl sys (Nat.le_trans putT_len (by omega)) (putT_deep deep d8) (put_of rv pe) dd')
/-- D: the new dict -/
def tDcT (X : Cx) (c : Nat → Addr) (wi : TI) (g : TG) (tt : TT) (tk tv : TE) (vs : List Nat) : TE := fun σ H Q => wi σ H fun J H1 => ∀ D, H1 D = none → ∃ W : Nat → Nat → Hp → Prop, (∃ m, W 0 m (upd H1 D (dTO (cnOf X c) D []))) ∧ ∀ i m H, W i m H →
  (J.stop i H ∧ Q (.ref D) H) ∨ (J.go i H ∧ ∃ Nx : Hp → Prop, (∀ H', Nx H' → ∃ m', m' < m ∧ W (i + 1) m' H') ∧ ∀ x H', J.yld i H x H' → g x (L2.wipe σ vs) H' fun σ2 H2 => L2.wipe σ2 vs = L2.wipe σ vs ∧ tt σ2 H2 fun b H3 =>
    if b = true then tk σ2 H3 fun y H4 => tv σ2 H4 fun z H5 => ∃ (F : Addr → Prop) (ρ : List Addr) (k : PV) (kvs : List (PV × PV)) (es : List E3) (nk : NestedKey) (kb : Addr), y = .ref kb ∧ H5 D = some (dTO (cnOf X c) D es) ∧ es.length < sizeLine ∧ RTs (cnOf X c) F ρ H5 kvs es ∧ keyT true k = true ∧ toNK k = some nk ∧ RV (cnOf X c) F ρ H5 k (.ref kb) ∧ Nx (upd H5 D (dTO (cnOf X c) D (putT es nk kb z))) else Nx H3)
theorem dcT_core {pins : List (Addr × Obj)} {s : Shared} {σ : St} {H : Hp} {Q : VK} {kx vx tg iter : Expr} {ifs : List Expr} {scope : Scope} {own : List (Str × Nat)} {pos pos' : Pos} {wi : TI} {g : TG} {tt : TT} {tk tv : TE} {use : Option (Value → Sem Unit)} {Qf : Value → Shared → Prop}
    (hu : X.A.units + 64 < cLine) (hc : X.calm = true) (hN : X.N.Nodup) (I : Inv X pins σ H s) (hi : PI X tg iter wi) (ok : BlkOk X.N X.env.scope scope own)
    (hg : ∀ (s : Shared) (H : Hp) (C : Addr) (cl : List (Str × Addr)) (fp : List Addr), PG (X.blk s H scope (compEnvC scope cl C X.env) fp) tg g) (ht : ∀ (s : Shared) (H : Hp) (C : Addr) (cl : List (Str × Addr)) (fp : List Addr), PTs (X.blk s H scope (compEnvC scope cl C X.env) fp) ifs tt)
    (hk : ∀ (s : Shared) (H : Hp) (C : Addr) (cl : List (Str × Addr)) (fp : List Addr), PE (X.blk s H scope (compEnvC scope cl C X.env) fp) kx tk)
    (he : ∀ (s : Shared) (H : Hp) (C : Addr) (cl : List (Str × Addr)) (fp : List Addr), PE (X.blk s H scope (compEnvC scope cl C X.env) fp) vx tv) (hs : ∀ x, foldedSetIterable iter X.env x = pure x)
    (h : tDcT X c wi g tt tk tv (own.map (·.2)) σ H Q)
    (hRR : ∀ D C s' m H', Inv X pins σ H' s' → Q (.ref D) H' → s'.heap.Ns C m → FpOk X pins H' C → compPost (model X.prog X.w) X.A X.xe use Qf (.ref D) C (.ok .next) s') :
    wpAny (model X.prog X.w) X.A (comprehension (.DictComp kx vx [⟨tg, iter, ifs, 0⟩] scope pos) scope X.env pos' newDict false (eval iter X.env) use) Qf X.xe s := by
  have freeN : ∀ y ∈ scope.names, y.2 = .free → ∃ q, X.env.cells.lookup y.1 = some q := fun y hy e => (ok.free y hy e).elim (fun k => I.ok.has _ (.inl k)) fun k => I.ok.has _ (.inr k)
  refine wpAny_comprehension_free (use := use) rfl hs (closure_ok freeN) ok.kind (fun y hy e => by rw [ok.uniq y hy, e])
    (thn (hi.run pins s σ H _ I h) fun xv sA hx => thn hx fun itv sB hB => ?_)
  obtain ⟨it, fp, tn, J, HB, e, IB, T, stB, fB, q⟩ := hB
  subst e
  refine wpAny_newObj_type (newEnv_comp ?_)
  generalize hD : sB.heap.objs.size = D
  have hDn : HB D = none := IB.hok.fresh (Nat.le_of_eq hD)
  have hDs : (D == sysModules) = false := beq_eq_false_iff_ne.mpr (by rw [← hD]; exact Nat.ne_of_gt IB.big)
  obtain ⟨W, ⟨m0, w0⟩, turn⟩ := q D hDn
  generalize hsC : ({ sB with heap := sB.heap.push { cls := .type "dict", data := .dict #[] } } : Shared) = sC
  have IC : Inv X pins σ (upd HB D (dTO (cnOf X c) D [])) sC := by
    rw [← hsC]
    refine IB.laid (t' := sB.toks) (fun b o e => Heap.get?_push_of_some _ e) (Nat.le_of_eq hD) (dT_empty rfl rfl hDs ?_)
    rw [← hD]
    exact Heap.get?_push_size _ rfl
  have hpC : sC.heap = sB.heap.push { cls := .type "dict", data := .dict #[] } := by rw [← hsC]
  have szC : ∀ b ∈ fp, b < sB.heap.objs.size := fun b hb => by
    obtain ⟨o, e, _⟩ := T.obj _ _ stB b hb
    exact Heap.lt_size e
  have fC : ∀ b ∈ fp, FpOk X pins (upd HB D (dTO (cnOf X c) D [])) b ∧ b < sC.heap.objs.size := fun b hb => by
    refine ⟨⟨?_, (fB b hb).2⟩, by rw [hpC, Heap.size_push]; exact Nat.lt_succ_of_lt (szC b hb)⟩
    rw [upd_ne (by rw [← hD]; exact Nat.ne_of_lt (szC b hb))]
    exact (fB b hb).1
  have stC : tn 0 sC.heap := T.keep _ _ _ stB fun b _ o e => by rw [hpC]; exact Heap.get?_push_of_some _ e
  have ID := block_start IC ok hN fC
  have pg := hg sC (upd HB D (dTO (cnOf X c) D [])) sC.heap.objs.size (cellsFrom (sC.heap.objs.size + 1) scope.names (cloFrom X.env.cells scope.names [])) fp
  have pt := ht sC (upd HB D (dTO (cnOf X c) D [])) sC.heap.objs.size (cellsFrom (sC.heap.objs.size + 1) scope.names (cloFrom X.env.cells scope.names [])) fp
  have pk := hk sC (upd HB D (dTO (cnOf X c) D [])) sC.heap.objs.size (cellsFrom (sC.heap.objs.size + 1) scope.names (cloFrom X.env.cells scope.names [])) fp
  have pe := he sC (upd HB D (dTO (cnOf X c) D [])) sC.heap.objs.size (cellsFrom (sC.heap.objs.size + 1) scope.names (cloFrom X.env.cells scope.names [])) fp
  show codeAny _ _ (.compStart (.DictComp kx vx [⟨tg, iter, ifs, 0⟩] scope pos) 0 (.ref it) (.ref D) (compEnvC scope (cellsFrom (sC.heap.objs.size + 1) scope.names (cloFrom X.env.cells scope.names [])) sC.heap.objs.size X.env)) (compPost (model X.prog X.w) X.A X.xe use Qf (.ref D) sC.heap.objs.size) { sC with heap := pushCells (sC.heap.push { cls := .type "dict", data := .dict #[] }) scope.names }
  have nC : ∀ b ∈ fp, (upd HB D (dTO (cnOf X c) D [])) b = none := fun b hb => (fC b hb).1.1
  generalize hce : compEnvC scope (cellsFrom (sC.heap.objs.size + 1) scope.names (cloFrom X.env.cells scope.names [])) sC.heap.objs.size X.env = ce at ID pg pt pk pe ⊢
  have cL : ce.locals = sC.heap.objs.size := by subst hce; rfl
  generalize hHC : upd HB D (dTO (cnOf X c) D []) = HC at IC ID pg pt pk pe w0 nC fC
  generalize hsD : ({ sC with heap := pushCells (sC.heap.push { cls := .type "dict", data := .dict #[] }) scope.names } : Shared) = sD at ID ⊢
  have stD : tn 0 sD.heap := T.keep _ _ _ stC fun b _ o e => by rw [← hsD]; exact pushCells_keeps _ _ _ _ (Heap.get?_push_of_some _ e)
  have fpk : ∀ {σ' : St} {H' : Hp} {s' : Shared}, Inv (X.blk sC HC scope ce fp) [] σ' H' s' → (∀ b ∈ fp, H' b = none) → ∀ b ∈ fp, FpOk (X.blk sC HC scope ce fp) [] H' b := fun {σ' H' s'} I' hn b hb =>
    ⟨hn b hb, (I'.ok.exf b hb).1, I'.ok.exfs b hb, .inl hb, fun x c e => (I'.ok.exf b hb).2 x c e, fun p hp => absurd (show p ∈ ([] : List (Addr × Obj)) ++ [] from hp) (by simp)⟩
  have loop : codeAny (model X.prog X.w) X.A (.compLoop (.DictComp kx vx [⟨tg, iter, ifs, 0⟩] scope pos) 0 (.ref it) (.ref D) ce) (compPost (model X.prog X.w) X.A X.xe use Qf (.ref D) sC.heap.objs.size) sD := by
    refine compLoop_anyD (fun n s' => ∃ i H', Inv (X.blk sC HC scope ce fp) [] (L2.wipe σ (own.map (·.2))) H' s' ∧ tn i s'.heap ∧ (∀ b ∈ fp, H' b = none) ∧ W i n H') ?_ m0 ⟨0, HC, ID, stD, nC, w0⟩
    rintro n sE ⟨i, HE, IE, stE, nE, wE⟩
    rcases turn i n HE wE with ⟨stop, qq⟩ | ⟨go, Nx, hNx, step⟩
    · refine thnF (T.done (X.blk sC HC scope ce fp) rfl rfl rfl hc i [] sE _ HE (fun _ _ => False) IE (fpk IE nE) stE stop) fun r sF ⟨hr, IF⟩ => ?_
      subst hr
      have IG : Inv X pins σ HE sF := IC.call' (ch := fp) IF.os IF.base IF.hok IF.bare fun b hb => ⟨(fC b hb).1.2.2.2.1, (fC b hb).1.2.1, (fC b hb).1.2.2.2.2.1, (fC b hb).1.2.2.2.2.2⟩
      have nCs : HE sC.heap.objs.size = none := by
        have z : HE ce.locals = none := IF.free
        rw [cL] at z
        exact z
      obtain ⟨m, hn, _⟩ := IF.loc
      have hn : sF.heap.Ns ce.locals m := hn
      rw [cL] at hn
      exact hRR D sC.heap.objs.size sF m HE IG qq hn (IC.fpOk (Nat.le_refl _) nCs)
    · refine thnF (T.item (X.blk sC HC scope ce fp) rfl rfl rfl hc i [] sE _ HE (fun _ _ => False) IE (fpk IE nE) stE go) fun r sF ⟨u, hr, hF⟩ => ?_
      subst hr
      refine thnF hF fun _ sG ⟨x, HG, IG, rG, yG, stG, nG⟩ => ?_
      have IGp := IG.pinned (fpk IG nG) (T.obj _ _ stG)
      refine thnF (pg.run _ sG _ HG x u _ IGp rG (step x HG yG)) fun _ sK ⟨σK, HK, IK, hwK, qK⟩ => ?_
      refine thnF (pt.run _ sK σK HK _ IK qK) fun b sL ⟨HL, IL, qL⟩ => ?_
      have fin : ∀ {s' : Shared} {H' : Hp}, Inv (X.blk sC HC scope ce fp) ([] ++ pinsAt fp sG.heap) σK H' s' → Nx H' → ∃ m, m < n ∧ ∃ i H', Inv (X.blk sC HC scope ce fp) [] (L2.wipe σ (own.map (·.2))) H' s' ∧ tn i s'.heap ∧ (∀ b ∈ fp, H' b = none) ∧ W i m H' := fun {s' H'} I' nx => by
        obtain ⟨m', hm, w'⟩ := hNx H' nx
        have pinned : ∀ b ∈ fp, ∀ o, sG.heap.get? b = some o → s'.heap.get? b = some o ∧ H' b = none := fun b hb o e =>
          let z := I'.pin (b, o) (List.mem_append_right _ (List.mem_append_right _ (mem_pinsAt hb e)))
          ⟨z.1, z.2.1⟩
        have hl : (L2.wipe σ (own.map (·.2))).length = σK.length := by rw [← hwK, wipe_length]
        refine ⟨m', hm, i + 1, H', (I'.unpinned (pins := [])).weak hl (fun j v e => ?_), T.keep _ _ _ stG fun b hb o e => (pinned b hb o e).1, fun b hb => ?_, w'⟩
        · rw [← hwK] at e
          exact (wipe_some e).1
        · obtain ⟨o, e, _⟩ := T.obj _ _ stG b hb
          exact (pinned b hb o e).2
      cases b with
      | false =>
        simp only [Bool.false_eq_true, if_false] at qL ⊢
        exact fin IL qL
      | true =>
        simp only [if_true] at qL ⊢
        refine thnF (pk.run _ sL σK HL _ IL qL) fun z sM ⟨yk, HM, IM, rM, qM⟩ => ?_
        refine thnF (pe.run _ sM σK HM _ IM qM) fun z2 sN ⟨yv, HN, IN, rN, F, ρ, k, kvs, es, nk, kb, ek, hDN, hzN, rtN, hkN, ekN, rkN, nx⟩ => ?_
        subst ek
        exact put_dT (X := X.blk sC HC scope ce fp) (c := c) hu IN hDN rtN hzN hkN ekN rkN rM rN fun sO IO => fin IO nx
  exact codeAny_compStart_dict loop (T.self X.A 0 _ _ _ stD loop)
theorem put_length {k v : PV} {kvs : List (PV × PV)} : (put k v kvs).length ≤ kvs.length + 1 := by
  unfold put
  split
  · rw [List.length_map]; exact Nat.le_succ _
  · rw [List.length_append]; exact Nat.le_refl _
theorem tests_nil {D : Addr} {σ : St} {H : Hp} {K : Bool → Hp → Prop} {ρ : List Addr} {st : Store} {σp : Env} (A : At κ (G.blk D) ρ st H) (R : REnv κ (Fo (G.blk D).B ρ) ρ H σp σ) (h : ∀ ρ' H', Ext ρ H ρ' H' → At κ (G.blk D) ρ' st H' → K true H') : tTs κ (G.blk D) cs [] σ H K := ⟨ρ, st, σp, A, R, fun ρ' H' e A' => h ρ' H' e A'⟩
theorem dcT_imp {ix : List Nat} {it : DI} {tgd : DTg} {dk dv : DE} : ∀ σ H Q, tFD (cnOf X c) G cs (Dn.D.dc true ix it tgd dk dv) σ H Q →
    tDcT X c (tI (cnOf X c) G cs it) (fun v σ H Q => ∃ D, gW ix (cnOf X c) (G.blk D) cs tgd v σ H Q) (fun σ H Q => ∃ D, tTs (cnOf X c) (G.blk D) cs [] σ H Q) (tIn (cnOf X c) G cs dk) (tIn (cnOf X c) G cs dv) ix σ H Q := by
  rintro σ H Q ⟨ρ, st, σp, A, R, o⟩
  refine ⟨ρ, st, σp, A, R, o.bind.mono fun pr st1 ρ1 H1 e1 A1 o1 J hJ D hD => ?_⟩
  obtain ⟨xs, src⟩ := pr
  have hB : ∀ a, H1 a ≠ none → (G.blk D).B a → G.B a := fun a h z => z.elim id fun z => absurd (by rw [z]; exact hD) h
  have h0D : G.H0 D = none := A1.ext.free hD
  split at o1
  · rename_i hh
    simp only [Bool.and_eq_true, decide_eq_true_eq] at hh
    obtain ⟨hsrc, hlen⟩ := hh
    have hsrc : src = none := by cases src with | none => rfl | some _ => cases hsrc
    subst hsrc
    have hlen : xs.length ≤ 1000000 := hlen
    let P : List (PV × PV) → Store → Prop := fun kvs st' => ∀ ρ' H' es, Ext ρ1 H1 ρ' H' → At (cnOf X c) (G.blk D) ρ' st' H' → H' D = some (dTO (cnOf X c) D es) → RTs (cnOf X c) (Fo (G.blk D).B ρ') ρ' H' kvs es → Q (.ref D) H'
    let lp := Dn.D.dcL true tgd dk dv cs (Dn.D.wipe σp ix)
    have nt : ∀ es : List E3, ∀ xs, (dTO (cnOf X c) D es) ≠ .tup xs := fun _ _ z => nomatch z
    have nf : ∀ es : List E3, ∀ q u, (dTO (cnOf X c) D es) ≠ .frz q u := fun _ _ _ z => nomatch z
    let W : Nat → Hp → Prop := fun i H => ∃ ρ st acc es, Ext ρ1 H1 ρ H ∧ At (cnOf X c) (G.blk D) ρ st H ∧ REnv (cnOf X c) (Fo (G.blk D).B ρ) ρ H (Dn.D.wipe σp ix) (L2.wipe σ ix) ∧ H D = some (dTO (cnOf X c) D es) ∧ RTs (cnOf X c) (Fo (G.blk D).B ρ) ρ H acc es ∧ acc.length ≤ i ∧
      FinR P (lp (xs.drop i) acc st)
    refine ⟨fun i m H => m = xs.length - i ∧ i ≤ xs.length ∧ W i H, ⟨xs.length, by simp, Nat.zero_le _, ρ1, st1, [], [], ext_new hD, ⟨wd_lay A1.wd hD, A1.ext.trans (ext_new hD)⟩, ((wipe_env R ix).mono e1.mono).mono (mono_lay hD), upd_same, by simp only [RTs], Nat.le_refl _, ?_⟩, ?_⟩
    · show FinR P (lp xs [] st1)
      have f := fin_calm o1
      cases q : lp xs [] st1 with
      | ok kvs st' =>
        have q' : Dn.D.dcL true tgd dk dv cs (Dn.D.wipe σp ix) xs [] st1 = .ok kvs st' := q
        rw [q'] at f
        intro ρ' H' es e' A' hv r
        have e2 := ext_del e' hD
        dsimp only [FinR, Out] at f
        obtain ⟨t, k2, ez, _, k3⟩ := f ρ' (del H' D) e2 ⟨wd_del A'.wd (fun a ha z => A1.wd.dom a ha (by rw [z]; exact hD)) hv (nt es) (nf es), A1.ext.trans e2⟩
        cases ez
        have := k3 rfl es D (r.mono (mono_del hv (nt es) (nf es))) del_at
        rw [upd_del hv] at this
        exact this
      | exc e st' =>
        have q' : Dn.D.dcL true tgd dk dv cs (Dn.D.wipe σp ix) xs [] st1 = .exc e st' := q
        rw [q'] at f; exact f
      | bad =>
        have q' : Dn.D.dcL true tgd dk dv cs (Dn.D.wipe σp ix) xs [] st1 = .bad := q
        rw [q'] at f; exact f
    · rintro i m H2 ⟨rfl, hi, ρ2, st2, acc, es, e2, A2, R2, hv, ra, hl, fin⟩
      have hi : i ≤ xs.length := hi
      by_cases hlt : i < xs.length
      · refine .inr ?_
        have hdrop : xs.drop i = xs[i] :: xs.drop (i + 1) := List.drop_eq_getElem_cons hlt
        rw [hdrop] at fin
        have fin : FinR P ((tgd cs xs[i] (Dn.D.wipe σp ix) st2).bind fun σ1 st => (dk cs σ1 st).bind fun y st => (dv cs σ1 st).bind fun z st =>
            if keyT true y then lp (xs.drop (i + 1)) (put y z acc) st else .bad) := fin
        obtain ⟨go, yl⟩ := hJ.go (G.blk D).B i ρ2 st2 H2 hB e2 A2.wd rfl hlt
        refine ⟨go, W (i + 1), fun H' w => ⟨xs.length - (i + 1), by omega, rfl, hlt, w⟩, fun x H3 hy => ?_⟩
        obtain ⟨e3, W3, pv, ep, rp⟩ := yl x H3 hy
        rw [List.getElem?_eq_getElem hlt] at ep
        cases ep
        have A3 := A2.step e3 W3
        refine ⟨D, _, ⟨ρ2, st2, Dn.D.wipe σp ix, xs[i], A3, R2.mono e3.mono, rp, (fin_bind fin).mono fun σ4 st4 ρ4 H4 e4 A4 f4 σ4' R4 => ?_⟩, fun σ5 H5 hw q => ⟨hw.trans (wipe2 ix), q⟩⟩
        refine ⟨D, tests_nil A4 R4 fun ρ5 H5 e5 A5 => ?_⟩
        show tIn (cnOf X c) G cs dk σ4' H5 _
        refine ⟨D, ρ5, st4, σ4, A5, R4.mono e5.mono, (fin_bind f4).mono fun y st6 ρ6 H6 e6 A6 f6 ky ry => ?_⟩
        refine ⟨D, ρ6, st6, σ4, A6, (R4.mono e5.mono).mono e6.mono, (fin_bind f6).mono fun z st7 ρ7 H7 e7 A7 f7 vz rz => ?_⟩
        have eA := ((((e3.trans e4).trans e5).trans e6).trans e7)
        split at f7
        · rename_i hk
          have ry2 := ry.mono (e7.mono (κ := cnOf X c) (B := (G.blk D).B))
          have hk' := hk
          cases y <;> simp only [keyT, if_true, Bool.false_eq_true] at hk'
          obtain ⟨nk, ek, d8⟩ := keyOk_nk 8 _ hk'
          have ry3 := ry2
          simp only [RV] at ry3
          obtain ⟨kb, vs', rfl, h4, h5⟩ := ry3
          have hv7 : H7 D = some (dTO (cnOf X c) D es) := eA.keep D _ hv (blk_at A7)
          have ra7 := ra.mono (eA.mono (κ := cnOf X c) (B := (G.blk D).B))
          refine ⟨_, ρ7, _, acc, es, nk, kb, rfl, hv7, by rw [← ra.length]; exact Nat.lt_of_lt_of_le (by omega) (Nat.le_trans hlen big), ra7, hk, ek, ry2, ?_⟩
          exact ⟨ρ7, st7, _, _, ext_turn (e2.trans eA) hD, ⟨wd_turn A7.wd hv7 (nt es) (nf es), ext_turn A7.ext h0D⟩, (R2.mono eA.mono).mono (mono_turn hv7 (nt es) (nf es)), upd_same, (ra7.put ek ry2 rz).mono (mono_turn hv7 (nt es) (nf es)), Nat.le_trans put_length (by omega), f7⟩
        · exact f7.elim
      · refine .inl ?_
        have hdrop : xs.drop i = [] := List.drop_eq_nil_of_le (Nat.le_of_not_lt hlt)
        rw [hdrop] at fin
        have fin : P acc st2 := fin
        exact ⟨hJ.stop (G.blk D).B i ρ2 st2 H2 hB e2 A2.wd rfl (Nat.le_of_not_lt hlt), fin ρ2 H2 es e2 A2 hv ra⟩
  · exact o1.elim
theorem pe_dcT {kx vx tg iter : Expr} {ifs : List Expr} {own : List (Str × Nat)} {pos : Pos} {wi : TI} {g : TG} {tt : TT} {tk tv : TE} (hu : X.A.units + 64 < cLine) (hc : X.calm = true) (hN : X.N.Nodup) (hi : PI X tg iter wi) (ok : BlkOk X.N X.env.scope scope own)
    (hg : ∀ (s : Shared) (H : Hp) (C : Addr) (cl : List (Str × Addr)) (fp : List Addr), PG (X.blk s H scope (compEnvC scope cl C X.env) fp) tg g) (ht : ∀ (s : Shared) (H : Hp) (C : Addr) (cl : List (Str × Addr)) (fp : List Addr), PTs (X.blk s H scope (compEnvC scope cl C X.env) fp) ifs tt)
    (hk : ∀ (s : Shared) (H : Hp) (C : Addr) (cl : List (Str × Addr)) (fp : List Addr), PE (X.blk s H scope (compEnvC scope cl C X.env) fp) kx tk)
    (he : ∀ (s : Shared) (H : Hp) (C : Addr) (cl : List (Str × Addr)) (fp : List Addr), PE (X.blk s H scope (compEnvC scope cl C X.env) fp) vx tv) (hs : ∀ x, foldedSetIterable iter X.env x = pure x) :
    PE X (.DictComp kx vx [⟨tg, iter, ifs, 0⟩] scope pos) (tDcT X c wi g tt tk tv (own.map (·.2))) := by
  refine ⟨fun pins s σ H Q I h => ?_⟩
  rw [arm_eval_DictComp]
  refine dcT_core hu hc hN I hi ok hg ht hk he hs h fun D C s' m H' I' q hn f => ⟨m, hn, fun h'' sb => ?_⟩
  obtain ⟨f0, f1, f2, f3, f4, f5⟩ := f
  exact ⟨.ref D, H', I'.turned (t' := s'.toks) (fun b o hb e => (sb.2 b hb).trans e) f0 f1 f3 f4 f5, rfl, q⟩
theorem SED.dcT {kx vx tg iter : Expr} {pos : Pos} {own : List (Str × Nat)} {ix : List Nat} {it : DI} {tgd : DTg} {dk dv : DE} (ok : blkC N sc scope own = true) (hix : own.map (·.2) = ix) (hi : SI Γ N sc tg iter it) (ht : Keeps ix tg tgd Γ N (relSc scope sc))
    (hk : SE Γ N (relSc scope sc) kx dk) (he : SE Γ N (relSc scope sc) vx dv) (hfs : ∀ env x, foldedSetIterable iter env x = pure x := by intro _ _; rfl) : SED Γ N sc (.DictComp kx vx [⟨tg, iter, [], 0⟩] scope pos) (Dn.D.dc true ix it tgd dk dv) := fun n c fa G X g => by
  subst hix
  exact (pe_dcT (c := c) g.u64 g.calm g.nd (hi n c fa G X g) (by rw [g.hN, g.hsc]; exact blkOk_by ok) (fun s H C cl fp => PG_ex fun D : Addr => ht.pg (g.blk ok D s H C cl fp)) (fun s H C cl fp => PTs_ex fun D : Addr => STs.pts (ts := []) (ds := []) trivial (g.blk ok D s H C cl fp))
    (fun s H C cl fp => PE_ex fun D : Addr => hk n c fa _ _ (g.blk ok D s H C cl fp)) (fun s H C cl fp => PE_ex fun D : Addr => he n c fa _ _ (g.blk ok D s H C cl fp)) (hfs _)).imp dcT_imp
theorem do_dc {t : Bool} {ix : List Nat} {it : DI} {tgd : DTg} {dk dv : DE} : DicOnly (Dn.D.dc t ix it tgd dk dv) := fun cs σ st v st' h => dicOnly_bind h fun a st1 _ q => by
  split at q
  · exact dicOnly_bind q fun ys st2 _ q => by cases q; exact ⟨_, _, rfl⟩
  · cases q
end
end Dn

/-! abs, repr, list.pop(i), list.index, sorted of a dict. -/
namespace Dn
open PySem L2
namespace O
def abs : PV → Option PV
  | .int i => some (.int (if i < 0 then -i else i))
  | _ => none
mutual
/-- a bound of how long it is, shown -/
def msz : PV → Nat
  | .int i => if i.natAbs < 1000000000000 then 13 else (PyData.shown (.int i)).length
  | .str x => (PyData.shown (.str x)).length
  | .tup xs => mszL xs + 3
  | .lst xs => mszL xs + 3
  | .non => 4
  | .bl _ => 5
  | .dic _ _ => 4
  | .ref _ => 4
  | .scr _ => 4
def mszL : List PV → Nat
  | [] => 0
  | x :: xs => msz x + 2 + mszL xs
end
mutual
/-- its ints can be shown -/
def okInt : PV → Bool
  | .int i => decide (i.natAbs < 1000000000000) || decide (i.natAbs.log2 < 1920)
  | .tup xs => okIntL xs
  | .lst xs => okIntL xs
  | .non => true
  | .bl _ => true
  | .str _ => true
  | .dic _ _ => true
  | .ref _ => true
  | .scr _ => true
def okIntL : List PV → Bool
  | [] => true
  | x :: xs => okInt x && okIntL xs
end
def rep (x : PV) : Str := PyData.shown (toPD x)
def repr (x : PV) : Option PV := if (flat 60 x && okInt x) && Nat.ble (msz x) 10000000 then some (.str (rep x)) else none
end O
theorem toPDs_map : ∀ l : List PV, toPDs l = l.map toPD
  | [] => rfl
  | x :: xs => by rw [toPDs, toPDs_map xs]; rfl
mutual
theorem msz_le : ∀ (n : Nat) (x : PV), flat n x = true → (toPD x).shown.length ≤ O.msz x
  | n, .non, _ => by simp only [toPD, O.msz]; decide +kernel
  | n, .bl b, _ => by cases b <;> (simp only [toPD, O.msz]; decide +kernel)
  | n, .int i, _ => by
    simp only [toPD, O.msz]
    split
    · rename_i h
      exact PyData.shown_int_le (by omega)
    · exact Nat.le_refl _
  | n, .str x, _ => by simp only [toPD, O.msz]; exact Nat.le_refl _
  | n, .tup xs, h => by
    cases n with
    | zero => simp [flat] at h
    | succ n =>
      simp only [flat] at h
      simp only [toPD, O.msz, PyData.shown]
      have h1 := tupleText_len_le (PyData.shownAll (toPDs xs))
      have h2 := mszL_le n xs h
      have h3 := PyData.shownAll_length (toPDs xs)
      omega
  | n, .lst xs, h => by
    cases n with
    | zero => simp [flat] at h
    | succ n =>
      simp only [flat] at h
      simp only [toPD, O.msz, PyData.shown]
      have h1 := listText_len_le (PyData.shownAll (toPDs xs))
      have h2 := mszL_le n xs h
      have h3 := PyData.shownAll_length (toPDs xs)
      omega
  | n, .dic t kvs, h => by simp [flat] at h
  | n, .ref k, h => by simp [flat] at h
  | n, .scr k, h => by simp [flat] at h
theorem mszL_le : ∀ (n : Nat) (x : List PV), flatL n x = true → ((PyData.shownAll (toPDs x)).map (·.length)).sum + 2 * (toPDs x).length ≤ O.mszL x
  | n, [], _ => by simp [toPDs, O.mszL, PyData.shownAll]
  | n, x :: xs, h => by
    simp only [flatL, Bool.and_eq_true] at h
    have h1 := msz_le n x h.1
    have h2 := mszL_le n xs h.2
    simp only [toPDs, O.mszL, PyData.shownAll, List.map_cons, List.sum_cons, List.length_cons]
    omega
end
mutual
theorem okInt_sh : ∀ (n : Nat) (x : PV), flat n x = true → O.okInt x = true → (toPD x).showable = true ∧ (toPD x).hasDict = false
  | n, .non, _, _ => by simp [toPD, PyData.showable, PyData.hasDict]
  | n, .bl b, _, _ => by simp [toPD, PyData.showable, PyData.hasDict]
  | n, .str x, _, _ => by simp [toPD, PyData.showable, PyData.hasDict]
  | n, .int i, _, h => by
    simp only [O.okInt, Bool.or_eq_true, decide_eq_true_eq] at h
    simp only [toPD, PyData.showable, PyData.hasDict, decide_eq_true_eq, and_true]
    rcases h with h | h
    · refine Nat.lt_of_le_of_lt (?_ : _ ≤ 39) (by decide)
      by_cases z : i.natAbs = 0
      · rw [z]; decide
      · have h1 := Nat.log2_self_le z
        apply Nat.le_of_lt_succ
        rw [← Nat.pow_lt_pow_iff_right (a := 2) (by decide)]
        have e : (2 : Nat) ^ (39 + 1) = 1099511627776 := by decide
        rw [show Nat.succ 39 = 39 + 1 from rfl, e]
        omega
    · exact h
  | n, .tup xs, h, g => by
    cases n with
    | zero => simp [flat] at h
    | succ n =>
      simp only [flat] at h
      simp only [O.okInt] at g
      simp only [toPD, PyData.showable, PyData.hasDict]
      exact okIntL_sh n xs h g
  | n, .lst xs, h, g => by
    cases n with
    | zero => simp [flat] at h
    | succ n =>
      simp only [flat] at h
      simp only [O.okInt] at g
      simp only [toPD, PyData.showable, PyData.hasDict]
      exact okIntL_sh n xs h g
  | n, .dic t kvs, h, _ => by simp [flat] at h
  | n, .ref k, h, _ => by simp [flat] at h
  | n, .scr k, h, _ => by simp [flat] at h
theorem okIntL_sh : ∀ (n : Nat) (x : List PV), flatL n x = true → O.okIntL x = true → PyData.showableAll (toPDs x) = true ∧ PyData.hasDictAll (toPDs x) = false
  | n, [], _, _ => by simp [toPDs, PyData.showableAll, PyData.hasDictAll]
  | n, x :: xs, h, g => by
    simp only [flatL, Bool.and_eq_true] at h
    simp only [O.okIntL, Bool.and_eq_true] at g
    have h1 := okInt_sh n x h.1 g.1
    have h2 := okIntL_sh n xs h.2 g.2
    simp [toPDs, PyData.showableAll, PyData.hasDictAll, h1, h2]
end
section
variable {Γ : Pg} {n : Nat} {c fa : Nat → Addr} {G : Fr} {N : List Str} {sc : Scope} {X : Cx} {κ : Cn} {cs : CS}
variable {a b e d : Expr} {da db dd : DE} {pos p : Pos} {es : List Expr} {ds : DEs}
theorem o_abs (hx : okB Γ sc ("abs" : Str) = true) (ha : SE Γ N sc a da) (hst : ∀ env, starEach [a] env = (false, eval a env) :: starEach [] env := by intro _; rfl) : SE Γ N sc (.Call (.Name ("abs" : Str) p) [a] [] pos) (D.op1 O.abs da) :=
  SE.blt1 hx (by decide +kernel) (fun n c fa G X g => ⟨_, call_abs, fun ρ st H p v x Q A rp ef k => by
    cases p <;> simp only [O.abs, reduceCtorEq, Option.some.injEq] at ef
    subst ef
    exact ⟨_, by rw [rr_int rp], now A k (by simp only [RV])⟩⟩) ha hst
theorem big7 : 10000000 ≤ sizeLine := by decide +kernel
/-- repr of data -/
def rRepr (K : PySem.W.Frag) : List V → Hp → VK → Prop := fun vs H Q => ∃ v d, vs = [v] ∧ Dp K H v d ∧ d.showable = true ∧ d.hasDict = false ∧ d.depth ≤ 61 ∧ d.shown.length ≤ sizeLine ∧ Q (.str d.shown) H
theorem call_rep (ng : NoG X.A) (hu : X.A.units + 64 < cLine) : CallR X (.builtin "repr") (rRepr X.K) := by
  intro pins s σ H vs us Q I r h
  obtain ⟨v, d, rfl, hd, h1, h2, h3, h4, q⟩ := h
  obtain ⟨u, rfl, ru⟩ := vals1 r
  obtain ⟨as, rd⟩ := Dp.reads I d v u hd ru
  cases hd with
  | non =>
    cases ru
    simp only [PyData.shown] at q
    exact PySem.P.repr_of_none ⟨.str _, H, I.tok _, ⟨_, rfl⟩, q⟩
  | bl b =>
    cases ru
    simp only [PyData.shown] at q
    refine PySem.P.repr_of_bool ⟨.str _, H, I.tok _, ⟨_, rfl⟩, ?_⟩
    cases b <;> exact q
  | int i =>
    obtain ⟨t, rfl⟩ := ru
    simp only [PyData.shown] at q
    simp only [PyData.showable, decide_eq_true_eq] at h1
    exact PySem.P.repr_of_int h1 ⟨.str _, H, I.tok _, ⟨_, rfl⟩, q⟩
  | str x =>
    obtain ⟨t, rfl⟩ := ru
    simp only [PyData.shown] at q h4
    exact PySem.P.repr_of_str ⟨.str _, H, I.tok _, ⟨_, rfl⟩, q⟩ h4
  | lst hs hl =>
    cases ru
    exact repr_of_reads' rd h1 (noDict_hsm' h2) ng (by omega) (fun _ _ z => z) (fun h' u tk hk => ⟨.str _, H, I.kept hk, ⟨_, rfl⟩, q⟩) h4
  | tup hs hl =>
    cases ru
    exact repr_of_reads' rd h1 (noDict_hsm' h2) ng (by omega) (fun _ _ z => z) (fun h' u tk hk => ⟨.str _, H, I.kept hk, ⟨_, rfl⟩, q⟩) h4
where noDict_hsm' {d : PyData} {as : List Addr} (h : d.hasDict = false) : d.hasDict = true → sysModules ∉ as := PyData.noDict_hsm h
theorem o_repr (hx : okB Γ sc ("repr" : Str) = true) (ha : SE Γ N sc a da) (hst : ∀ env, starEach [a] env = (false, eval a env) :: starEach [] env := by intro _; rfl) : SE Γ N sc (.Call (.Name ("repr" : Str) p) [a] [] pos) (D.op1 O.repr da) :=
  SE.blt1 hx (by decide +kernel) (fun n c fa G X g => ⟨_, call_rep g.ng g.u64, fun ρ st H p v x Q A rp ef k => by
    unfold O.repr at ef
    split at ef
    · rename_i hf
      simp only [Bool.and_eq_true] at hf
      cases ef
      have hs := okInt_sh 60 p hf.1.1 hf.1.2
      have hd := (shaped_pd 60 p hf.1.1).2
      have hm := msz_le 60 p hf.1.1
      have hb := Nat.le_of_ble_eq_true hf.2
      have h7 := big7
      exact ⟨x, _, rfl, dp_rr hf.1.1 rp, hs.1, hs.2, hd, by omega, now A k (by simp only [RV]; rfl)⟩
    · cases ef⟩) ha hst
end
/-! ### list.pop(i), list.index(x) -/
namespace D
def popAt (o e : DE) : DE := fun c σ st => (o c σ st).bind fun x st => if lstAt st x then (e c σ st).bind fun v st => match x, v with
    | .ref n, .int i => (match st[n]? with
      | some (.lst xs) => if 0 ≤ i ∧ i < xs.length ∧ xs.length < 1000000 then (match xs[i.toNat]? with | some y => .ok y (st.set n (.lst (xs.eraseIdx i.toNat))) | none => .bad) else .bad
      | _ => .bad)
    | _, _ => .bad
  else .bad
/-- o.pop() -/
def pop0 (o : DE) : DE := fun c σ st => (o c σ st).bind fun x st => match x with
    | .ref n => (match st[n]? with
      | some (.lst xs) => (match xs[xs.length - 1]? with | some y => .ok y (st.set n (.lst xs.dropLast)) | none => .bad)
      | _ => .bad)
    | _ => .bad
end D
section
variable {Γ : Pg} {n : Nat} {c fa : Nat → Addr} {G : Fr} {N : List Str} {sc : Scope} {X : Cx} {κ : Cn} {cs : CS}
variable {a b e d : Expr} {da db dd : DE} {pos p : Pos} {es : List Expr} {ds : DEs}
theorem rvs_erase {F : Addr → Prop} {ρ : List Addr} {H : Hp} : ∀ {ps : List PV} {vs : List V} (i : Nat), RVs κ F ρ H ps vs → RVs κ F ρ H (ps.eraseIdx i) (vs.eraseIdx i)
  | [], vs, i, h => by simp only [RVs] at h; subst h; simp [RVs]
  | p :: ps, vs, 0, h => by
    simp only [RVs] at h
    obtain ⟨v, r, rfl, _, h2⟩ := h
    simpa using h2
  | p :: ps, vs, i + 1, h => by
    simp only [RVs] at h
    obtain ⟨v, r, rfl, h1, h2⟩ := h
    simpa using RVs.cons h1 (rvs_erase i h2)
theorem rvs_dropLast {F : Addr → Prop} {ρ : List Addr} {H : Hp} {ps : List PV} {vs : List V} (h : RVs κ F ρ H ps vs) : RVs κ F ρ H ps.dropLast vs.dropLast := by
  rw [List.dropLast_eq_take, List.dropLast_eq_take, h.length]
  exact h.take _
theorem SE.popAt {apos : Pos} (ha : SE Γ N sc a da) (hb : SE Γ N sc b db) (hm : MRows a ("pop" : Str) apos b [] pos) : SE Γ N sc (.Call (.Attribute a ("pop" : Str) apos) [b] [] pos) (D.popAt da db) := fun n c fa G X g => by
  refine (pe_bm PySem.F.plainAttrs_list PySem.F.slot_list_pop PySem.F.type_list_pop mt_popAt (ha n c fa G X g) (pa_cons (hb n c fa G X g) pa_nil (hm.st _)) (hm.base _) (hm.few _) hm.line (hm.st _) (hm.pl _)).imp ?_
  rintro σ H Q ⟨ρ, st, σp, A, R, o⟩
  refine tE_bind A R o fun v st1 ρ1 H1 u e1 A1 R1 ru o1 => ?_
  split at o1
  · rename_i hl
    obtain ⟨m, ps, a', xs, rfl, em, rfl, h1, h2, h3⟩ := lst_at A1 ru hl
    refine ⟨.inl ⟨rfl, _, SqL.of h2⟩, tE_bind A1 R1 o1 fun w st2 ρ2 H2 z e2 A2 R2 rz o2 => ?_⟩
    split at o2
    · rename_i m' i em'
      cases em'
      split at o2
      · rename_i qs eq
        split at o2
        · rename_i hi
          split at o2
          · rename_i y ey
            have h1' := e2.get h1
            obtain ⟨ys, h4, h5⟩ := A2.wd.ob m _ a' eq h1'
            obtain ⟨w, hw, rw'⟩ := h5.get ey
            obtain ⟨e3, A3⟩ := put_lst (ps := qs.eraseIdx i.toNat) (xs := ys.eraseIdx i.toNat) A2 h1' h4 (rvs_erase _ h5)
            refine ⟨a', ys, i, i.toNat, w, rfl, by rw [rv_int rz], h4, by omega, by omega, ?_, hw, ?_⟩
            · rw [← h5.length]
              exact PySem.seqIndex_of hi.1 hi.2.1
            · exact o2 ρ2 _ e3 A3 w (rw'.mono e3.mono)
          · exact o2.elim
        · exact o2.elim
      · exact o2.elim
    · exact o2.elim
  · exact o1.elim
end
end Dn

/-! list.index(x), list.pop(), list.count(x), sorted of a dict with numbers as keys. -/
namespace Dn
open PySem L2
namespace O
def first (x : PV) : List PV → Option Nat
  | [] => none
  | y :: ys => if eqv y x then some 0 else (first x ys).map (· + 1)
def index : PV → PV → Option PV
  | .lst xs, x => if flat 59 x && flatL 59 xs then (first x xs).map fun i : Nat => PV.int (i : Int) else none
  | _, _ => none
def keysI : List (PV × PV) → Option (List PV)
  | [] => some []
  | (.int i, _) :: r => (keysI r).map (.int i :: ·)
  | _ => none
/-- sorted(d), d's keys numbers -/
def sortedD : PV → Option PV
  | .dic false kvs => if kvs.length < 64 then (keysI kvs).map fun ks => .lst (sortP ks) else none
  | _ => none
end O
namespace D
def lstV (st : Store) (x : PV) : Bool := match deref st x with
  | .lst _ => true
  | _ => false
def index (o e : DE) : DE := fun c σ st => (o c σ st).bind fun x st => if lstV st x then (e c σ st).bind fun y st => .of st (O.index (deref st x) y) else .bad
end D
theorem index_inv {p q r : PV} (h : O.index p q = some r) : ∃ ys j, p = .lst ys ∧ flat 59 q = true ∧ flatL 59 ys = true ∧ O.first q ys = some j ∧ r = .int (j : Nat) := by
  unfold O.index at h
  split at h
  · split at h
    · rename_i hf
      simp only [Bool.and_eq_true] at hf
      obtain ⟨j, ej, rfl⟩ := Option.map_eq_some_iff.mp h
      exact ⟨_, j, rfl, hf.1, hf.2, ej, rfl⟩
    · cases h
  · cases h
theorem first_ok {x : PV} (hx : flat 59 x = true) : ∀ (xs : List PV) (j : Nat), flatL 59 xs = true → O.first x xs = some j → ∃ z, (toPDs xs)[j]? = some z ∧ PyData.eqv z (toPD x) = true ∧ ∀ (m : Nat) (z' : PyData), m < j → (toPDs xs)[m]? = some z' → PyData.eqv z' (toPD x) = false
  | [], j, _, h => by cases h
  | y :: ys, j, hf, h => by
    simp only [flatL, Bool.and_eq_true] at hf
    simp only [O.first] at h
    simp only [toPDs]
    split at h
    · rename_i e
      cases h
      rw [eqv_pd 59 59 y x hf.1 hx] at e
      exact ⟨_, rfl, e, fun m z' hm => absurd hm (Nat.not_lt_zero _)⟩
    · rename_i e
      obtain ⟨i, ei, rfl⟩ := Option.map_eq_some_iff.mp h
      obtain ⟨z, h1, h2, h3⟩ := first_ok hx ys i hf.2 ei
      refine ⟨z, by simpa using h1, h2, fun m z' hm hz => ?_⟩
      cases m with
      | zero =>
        simp only [List.getElem?_cons_zero, Option.some.injEq] at hz
        subst hz
        rw [eqv_pd 59 59 y x hf.1 hx] at e
        simpa using e
      | succ m => exact h3 m z' (by omega) (by simpa using hz)
section
variable {Γ : Pg} {n : Nat} {c fa : Nat → Addr} {G : Fr} {N : List Str} {sc : Scope} {X : Cx} {κ : Cn} {cs : CS}
variable {a b e d : Expr} {da db dd : DE} {pos p : Pos} {es : List Expr} {ds : DEs}
theorem shaped_lst {xs : List PV} (h : flatL 59 xs = true) : SeqAt.shaped (.list (toPDs xs)) = true := by
  have e : flat 60 (.lst xs) = true := h
  have := shaped60 e
  simpa only [toPD] using this
theorem SE.index {apos : Pos} (ha : SE Γ N sc a da) (hb : SE Γ N sc b db) (hm : MRows a ("index" : Str) apos b [] pos) : SE Γ N sc (.Call (.Attribute a ("index" : Str) apos) [b] [] pos) (D.index da db) := fun n c fa G X g => by
  refine (pe_bm PySem.F.plainAttrs_list PySem.F.slot_list_index PySem.F.type_list_index (mt_indexD g.u65) (ha n c fa G X g) (pa_cons (hb n c fa G X g) pa_nil (hm.st _)) (hm.base _) (hm.few _) hm.line (hm.st _) (hm.pl _)).imp ?_
  rintro σ H Q ⟨ρ, st, σp, A, R, o⟩
  refine tE_bind A R o fun v st1 ρ1 H1 u e1 A1 R1 ru o1 => ?_
  split at o1
  · rename_i hl
    have r1 := RR.of A1.wd ru
    unfold D.lstV at hl
    split at hl
    · rename_i xs eq
      rw [eq] at r1
      obtain ⟨a', us, rfl, h1, h2⟩ := rr_lst r1
      refine ⟨.inl ⟨rfl, _, SqL.of h1⟩, tE_bind A1 R1 o1 fun w st2 ρ2 H2 z e2 A2 R2 rz o2 => ?_⟩
      obtain ⟨res, ef, k⟩ := o2.of
      have r2 := RR.of A2.wd (ru.mono e2.mono)
      obtain ⟨ys, j, eq2, hf1, hf2, ej, rfl⟩ := index_inv ef
      rw [eq2] at r2
      obtain ⟨zz, q1, q2, q3⟩ := first_ok hf1 ys j hf2 ej
      have dp := dp_rr (n := 60) (p := .lst ys) (by simpa only [flat] using hf2) r2
      simp only [toPD] at dp
      exact ⟨a', z, toPD w, toPDs ys, j, zz, rfl, rfl, dp, dp_of 59 w z hf1 rz, shaped_lst hf2, shapedS hf1, q1, q2, q3, k ρ2 H2 Ext.refl A2 _ (by simp only [RV])⟩
    · cases hl
  · exact o1.elim
theorem keysI_ok {F : Addr → Prop} {ρ : List Addr} {H : Hp} : ∀ {kvs : List (PV × PV)} {es : List (Key × V)} {ks : List PV}, RKs κ F ρ H kvs es → O.keysI kvs = some ks → ∃ ns : List Int, ks = ns.map .int ∧ es.map (·.1) = ns.map Sum.inl
  | [], es, ks, h, e => by
    simp only [RKs] at h
    simp only [O.keysI, Option.some.injEq] at e
    subst h e
    exact ⟨[], rfl, rfl⟩
  | (k, v) :: r, es, ks, h, e => by
    simp only [RKs] at h
    obtain ⟨kk, w, r', rfl, h1, h2, h3⟩ := h
    cases k <;> simp only [O.keysI, reduceCtorEq] at e
    rename_i i
    obtain ⟨ks', e1, rfl⟩ := Option.map_eq_some_iff.mp e
    obtain ⟨ns, e2, e3⟩ := keysI_ok h3 e1
    simp only [toKey, Option.some.injEq] at h1
    subst h1 e2
    exact ⟨i :: ns, rfl, by simp [e3]⟩
theorem insB_int (i : Int) : ∀ ms : List Int, ms.Pairwise (· ≤ ·) → ∃ ks : List Int, sortP.insB (.int i) (ms.map .int) = ks.map .int ∧ ks.Perm (i :: ms) ∧ ks.Pairwise (· ≤ ·)
  | [], _ => ⟨[i], rfl, .refl _, by simp⟩
  | m :: ms, h => by
    rw [List.pairwise_cons] at h
    simp only [List.map_cons, sortP.insB, lt, decide_eq_true_eq]
    by_cases hm : m < i
    · obtain ⟨ks, e1, e2, e3⟩ := insB_int i ms h.2
      refine ⟨m :: ks, by rw [if_pos hm, e1]; rfl, (e2.cons m).trans (List.Perm.swap ..), ?_⟩
      rw [List.pairwise_cons]
      refine ⟨fun x hx => ?_, e3⟩
      rcases List.mem_cons.mp (e2.mem_iff.mp hx) with z | z
      · omega
      · exact h.1 x z
    · refine ⟨i :: m :: ms, by rw [if_neg hm]; rfl, .refl _, ?_⟩
      rw [List.pairwise_cons]
      refine ⟨fun x hx => ?_, List.pairwise_cons.mpr h⟩
      rcases List.mem_cons.mp hx with z | z
      · omega
      · have := h.1 x z
        omega
theorem sortP_ints : ∀ ns : List Int, ∃ ms : List Int, sortP (ns.map .int) = ms.map .int ∧ ms.Perm ns ∧ ms.Pairwise (· ≤ ·)
  | [] => ⟨[], rfl, .refl _, .nil⟩
  | n :: ns => by
    obtain ⟨ms, e1, e2, e3⟩ := sortP_ints ns
    obtain ⟨ks, e4, e5, e6⟩ := insB_int n ms e3
    refine ⟨ks, ?_, e5.trans (e2.cons n), e6⟩
    show sortP.insB (.int n) (sortP (ns.map .int)) = _
    rw [e1, e4]
theorem sorted_unique {a b : List Int} (h : a.Perm b) (ha : a.Pairwise (· ≤ ·)) (hb : b.Pairwise (· ≤ ·)) : a = b := List.Perm.eq_of_pairwise (fun x y _ _ h1 h2 => Int.le_antisymm h1 h2) ha hb h
theorem rvs_ints {F : Addr → Prop} {ρ : List Addr} {H : Hp} : ∀ ys : List Int, RVs κ F ρ H (ys.map .int) (ys.map V.int)
  | [] => RVs.nil
  | y :: ys => RVs.cons (by simp only [RV]) (rvs_ints ys)
theorem o_sortedD (hx : okB Γ sc ("sorted" : Str) = true) (ha : SE Γ N sc a da) (hst : ∀ env, starEach [a] env = [(false, eval a env)] := by intro _; rfl) : SEF Γ N sc (.Call (.Name ("sorted" : Str) p) [a] [] pos) (D.op1 O.sortedD da) := fun n c fa G X g => by
  obtain ⟨g1, g2, g3, g4⟩ := okB_gl g hx
  refine (pe_callB (call_sortedDI g.calm) g1 g2 (by decide +kernel) (pa_cons (ha n c fa G X g) pa_nil (hst _)) g3 g4 (hst _) rfl).imp ?_
  rintro σ H Q ⟨ρ, st, σp, A, R, o⟩
  refine tE_bind A R o fun v st1 ρ1 H1 u e1 A1 R1 ru o1 => ?_
  obtain ⟨res, ef, k⟩ := o1.of
  have rp := RR.of A1.wd ru
  obtain ⟨ps, rfl, k2⟩ := k ρ1 H1 Ext.refl A1
  unfold O.sortedD at ef
  split at ef
  · rename_i kvs eq
    rw [eq] at rp
    obtain ⟨a', es, rfl, h1, h2⟩ := rp
    split at ef
    · rename_i hl
      obtain ⟨ks, e2, e3⟩ := Option.map_eq_some_iff.mp ef
      obtain ⟨ns, rfl, e5⟩ := keysI_ok h2 e2
      obtain ⟨ms, m1, m2, m3⟩ := sortP_ints ns
      cases e3
      have hn : ns.length < 64 := by
        have q := h2.length
        have z := congrArg List.length e5
        simp only [List.length_map] at z
        omega
      refine ⟨a', es, ns, rfl, .inl h1, e5, hn, fun ys q hp hs hq => ?_⟩
      have : ys = ms := sorted_unique (hp.trans m2.symm) hs m3
      subst this
      refine k2 _ q ?_ hq
      rw [m1]
      exact rvs_ints ys
    · cases ef
  · cases ef
theorem lo_sortedD : LstOnly (D.op1 O.sortedD da) := lo_op1 fun p v h => by
  unfold O.sortedD at h
  split at h
  · split at h
    · obtain ⟨ks, _, e⟩ := Option.map_eq_some_iff.mp h
      exact ⟨_, e.symm⟩
    · cases h
  · cases h
end
end Dn

/-! tuple * 1, list * n. -/
namespace L2
open PySem PySem.Spec PyProof.Rows
theorem tuple_mul_same (l : Addr) (items : Array Value) (n : Nat) (dd : Option Addr) (sl : Array (Option Value)) (u : Tok) :
    Meets (Builtin.«tuple.__mul__» ⟨[.ref l, .int 1 u], []⟩) (fun _ R s => s.heap.get? l = some { cls := .type "tuple", dict := dd, data := .seq items n, slots := sl } ∧ R (.ok (.ret (Value.ref l))) s) :=
  .of_wp fun prog w A R s h => by
    obtain ⟨hp, g, d, tk, os⟩ := s
    obtain ⟨hl, h⟩ := h
    have f1 := AutoSeq1.idx_int
    wp_walk using wpAny_loadPart' hl
    repeat (first
      | (refine wpAny_ite_false (decide_eq_false (by simp)) ?_; wp_walk using wpAny_loadPart' hl)
      | (refine wpAny_ite_true (decide_eq_true (by simp)) ?_; wp_walk using wpAny_loadPart' hl))
    exact ⟨_, rfl, h⟩
def rRep1 (K : PySem.W.Frag) : R2 := fun x y H Q => ∃ l xs, x = .ref l ∧ y = .int 1 ∧ SqT K H l xs ∧ Q (.ref l) H
section
variable {X : Cx}
theorem op_rep1 : OpR X (binaryOp .Mult) (rRep1 X.K) := by
  intro pins s σ H x y v u Q I rx ry h
  obtain ⟨l, xs, rfl, rfl, hT, q⟩ := h
  cases rx
  obtain ⟨t, rfl⟩ := ry
  obtain ⟨its, r, ⟨⟨cls, dd, data, sl⟩, ho, hc, n, hd⟩, hs⟩ := I.tuple hT
  simp only at hc hd
  subst hc hd
  exact wpAny_binaryOp_repeat_ref (T := "tuple") (U := "int") (by decide) ⟨_, ho, rfl⟩ (fun s' => typeIs_int s' 1 t) noFill_tuple_mul F.fills_int_mul F.slot_int_rmul repeat_tuple F.slot_int_index.lookup
    (call_meets F.slot_int_rmul (typeIs_int s 1 t) F.entry_int_rmul (F.args_int_rmul_2 _ _) (int_rmul_tuple 1 t l its.toArray n dd sl)
      ⟨ho, rfl, ⟨_, ho, rfl⟩, call_meets F.slot_tuple_mul ⟨_, ho, rfl⟩ F.entry_tuple_mul (F.args_tuple_mul_2 _ _) (tuple_mul_same l its.toArray n dd sl t) ⟨ho, ⟨.ref l, H, I.tok _, rfl, q⟩⟩⟩)
end
end L2
namespace Dn
open PySem L2
namespace O
/-- * of numbers, of a tuple or a list and a number -/
def mulx : PV → PV → Option PV
  | .tup xs, .int k => if k = 1 then some (.tup xs) else mul (.tup xs) (.int k)
  | .lst xs, .int k => if decide (0 ≤ k) && (decide (k ≤ 1000) && decide (xs.length ≤ 1000)) then some (.lst (List.replicate k.toNat xs).flatten) else none
  | x, y => mul x y
end O
section
variable {Γ : Pg} {n : Nat} {c fa : Nat → Addr} {G : Fr} {N : List Str} {sc : Scope} {X : Cx} {κ : Cn} {cs : CS}
variable {a b e d : Expr} {da db dd : DE} {pos p : Pos} {es : List Expr} {ds : DEs}
theorem o_mulx : Op2 Γ N sc (binaryOp .Mult) O.mulx := fun n c fa G X g => by
  obtain ⟨r, h1, h2⟩ := o_mul (Γ := Γ) (N := N) (sc := sc) n c fa G X g
  refine ⟨_, OpR.or h1 (OpR.or op_rep1 op_rep), ?_⟩
  intro ρ st H p q v x y Q A rp rq ef k
  unfold O.mulx at ef
  split at ef
  · split at ef
    · rename_i xs k' hk
      subst hk
      cases ef
      obtain ⟨a, us, rfl, h3, r3⟩ := rr_tup rp
      exact .inr (.inl ⟨a, us, rfl, rr_int rq, h3, now A k (by simp only [RV]; exact ⟨a, us, rfl, h3, r3⟩)⟩)
    · exact .inl (h2 ρ st H _ _ v x y Q A rp rq ef k)
  · split at ef
    · rename_i hs
      cases ef
      simp only [Bool.and_eq_true, decide_eq_true_eq] at hs
      obtain ⟨a, us, rfl, h3, r3⟩ := rr_lst rp
      refine .inr (.inr ⟨a, _, us, rfl, rr_int rq, h3, by omega, by omega, ?_, fun p hp => newL A k (RVs.flatten _ r3) hp⟩)
      rw [← r3.length]
      exact Nat.le_trans (Nat.mul_le_mul hs.2.2 (by omega : _ ≤ 1000)) big
    · cases ef
  · exact .inl (h2 ρ st H _ _ v x y Q A rp rq ef k)
end
end Dn

/-! sorted of rows: tuples of data, some of them empty. -/
namespace PySem.W
open PySem PySem.Calls PyProof.Rows PySem.SeqAt
section
variable {prog : Program} {w : World} {A : Around} {E : Value → Shared → Prop} {s : Shared}
def fullP : PyData → Bool
  | .tuple (_ :: _) => true
  | _ => false
theorem rows_firsts : ∀ {vs : List Value} {ds : List PyData}, EachIs (fun v d => ∃ as, Reads s.heap v d as) vs ds → (∀ d, d ∈ ds → ∃ xs, d = .tuple xs) →
    ∃ fs : List (Option Value), fs.map (·.isSome) = ds.map fullP ∧ ∀ (E' : Value → Shared → Prop) (Q : List (Option Value) → Shared → Prop), Q fs s → wpAny (model prog w) A (vs.mapM firstOfTuple') Q E' s
  | _, _, .nil, _ => ⟨[], rfl, fun E' Q h => by rw [List.mapM_nil]; exact wpAny_pure h⟩
  | _, _, .cons (b := d) (as := vs) ⟨as, r⟩ t, ht => by
    obtain ⟨fs, h1, h2⟩ := rows_firsts t fun d hd => ht d (List.mem_cons_of_mem _ hd)
    obtain ⟨xs, rfl⟩ := ht d (List.mem_cons_self ..)
    cases r with
    | @tuple a o arr n _ _ ho hc hd hr =>
      have hfull : arr[0]?.isSome = fullP (.tuple xs) := by
        have e : arr[0]? = arr.toList[0]? := by simp
        rw [e]
        cases q : arr.toList with
        | nil =>
          rw [q] at hr
          cases hr
          rfl
        | cons f fr =>
          rw [q] at hr
          cases hr
          rfl
      refine ⟨arr[0]? :: fs, by rw [List.map_cons, List.map_cons, hfull, h1], fun E' Q h => ?_⟩
      rw [List.mapM_cons]
      refine wpAny_bind ?_
      rw [kas_first_eq]
      refine wpAny_bind (Looks.here (show Looks (model prog w) s.heap (typeOf (.ref a)) o.cls from (Looks.ld ho).andThen .now) ?_)
      rw [hc, if_neg (by first | decide | simp)]
      refine wpAny_bind (listItems_at ho hd (wpAny_pure (wpAny_bind (h2 E' (fun bs s' => wpAny (model prog w) A (pure (arr[0]? :: bs)) Q E' s') (wpAny_pure h)))))
theorem lt_rows {xs ys : List PyData} {a b : Value} {as bs : List Addr} {Q : Bool → Shared → Prop} (ra : Reads s.heap a (.tuple xs) as) (rb : Reads s.heap b (.tuple ys) bs) (h : alikeAll xs ys = true)
    (hu : A.units + min (PyData.tuple xs).depth (PyData.tuple ys).depth < cLine) (hq : Q (dataLt (.tuple xs) (.tuple ys)) s) : wpAny (model prog w) A (oneLt' true a b) Q E s := by
  simp only [PyData.depth] at hu
  cases ra with
  | @tuple l o vs n _ as₁ h1 h2 h3 h4 =>
    cases rb with
    | @tuple l' o' vs' n' _ bs₁ k1 k2 k3 k4 =>
      have n1 : vs.size = xs.length := by simpa using ReadsAll.length _ _ _ h4
      have n2 : vs'.size = ys.length := by simpa using ReadsAll.length _ _ _ k4
      rw [dataLt_tuple, ← firstLt_toks xs ys h, ← n1, ← n2] at hq
      rw [oneLt'_eq]
      simp only [if_true]
      obtain ⟨cls, dd, data, sl⟩ := o
      obtain ⟨cls2, dd2, data2, sl2⟩ := o'
      simp only at h2 h3 k2 k3
      subst h2 h3 k2 k3
      refine wpAny_bind (wpAny_cRoomFor (room_here hu) ?_)
      refine wpAny_bind (wpAny_callSpecialIfBound?_slot (T := "tuple") ⟨_, h1, rfl⟩ F.slot_tuple_lt (call_meets F.slot_tuple_lt ⟨_, h1, rfl⟩ F.entry_tuple_lt (F.args_tuple_lt_2 _ _)
        (tuple_ltAt l l' vs vs' n n' dd dd2 sl sl2 (pairEq xs ys) (fun j => dataLt (xs.getD j .none) (ys.getD j .none))) ⟨h1, k1, fun j j1 j2 => ?_, fun j j1 j2 hj => ?_, ?_⟩))
      · have := eqAt_alikeAll xs ys A.in1 s vs.toList vs'.toList _ _ h4 k4 h (room_in hu) j (by simpa using j1) (by simpa using j2)
        simpa using this
      · have := rcLt_alikeAll xs ys A.in1 s vs.toList vs'.toList _ _ h4 k4 h (room_in hu) j (by simpa using j1) (by simpa using j2) hj
        simpa using this
      · exact wpAny_truthy_bool hq
theorem SortsAt.rows {vs : List Value} {ds : List PyData} (e : EachIs (fun v d => ∃ as, Reads s.heap v d as) vs ds) (hal : AllAlike ds) (ht : ∀ d, d ∈ ds → ∃ xs, d = .tuple xs) (hu : ∀ d, d ∈ ds → A.units + d.depth < cLine) : SortsAt prog w A s (dataKind s.heap ds) vs := by
  by_cases hf : ∀ d, d ∈ ds → ∃ x r, d = .tuple (x :: r)
  · exact SortsAt.data e hal (.inl hf) hu
  have room : ∀ {d d' : PyData}, d ∈ ds → A.units + min d.depth d'.depth < cLine := fun {d d'} hd => Nat.lt_of_le_of_lt (Nat.add_le_add_left (Nat.min_le_left _ _) _) (hu d hd)
  obtain ⟨fs, f1, f2⟩ := rows_firsts (prog := prog) (w := w) (A := A) e ht
  have nall : (fs.toArray.all fun x => x.isSome) = false := by
    rw [List.all_toArray]
    apply Bool.eq_false_iff.mpr
    intro hall
    refine hf fun d hd => ?_
    obtain ⟨xs, rfl⟩ := ht d hd
    have : (ds.map fullP).all id = true := by
      rw [← f1, List.all_map]
      exact hall
    rw [List.all_map] at this
    have q := List.all_eq_true.mp this _ hd
    cases xs with
    | nil => simp [fullP] at q
    | cons x r => exact ⟨x, r, rfl⟩
  have keys : ∀ v, v ∈ vs → ∃ a, (dataKind s.heap ds).keyOf v = some a := fun v hv => by
    obtain ⟨d, hd, as, r⟩ := e.left v hv
    exact ⟨_, dataKind_some hal hd r⟩
  refine ⟨keys, ?_⟩
  by_cases hg : ((fs.toArray[0]?).bind id).isSome = true
  · refine ⟨general', fun E x y a b Q ha hb hq => ?_, fun h2 E Q hq => ?_⟩
    · obtain ⟨d, as, hd, ra, rfl⟩ := dataKind_inv ha
      obtain ⟨d', as', hd', rb, rfl⟩ := dataKind_inv hb
      show wpAny _ _ (oneLt' false x y) _ _ _
      exact oneLt_alike (fun z => Bool.noConfusion z) ra rb (hal d hd d' hd') (fun z => by obtain ⟨xs, q⟩ := ht d hd; rw [z] at q; cases q) (room hd) hq
    · rw [keyKind'_eq, List.mapM_toArray, map_eq_pure_bind]
      refine wpAny_bind (wpAny_bind (f2 _ _ (wpAny_pure ?_)))
      rw [if_neg (by rw [nall]; exact Bool.false_ne_true), if_pos hg]
      exact wpAny_pure hq
  · refine ⟨oneType', fun E x y a b Q ha hb hq => ?_, fun h2 E Q hq => ?_⟩
    · obtain ⟨d, as, hd, ra, rfl⟩ := dataKind_inv ha
      obtain ⟨d', as', hd', rb, rfl⟩ := dataKind_inv hb
      obtain ⟨xs, rfl⟩ := ht d hd
      obtain ⟨ys, rfl⟩ := ht d' hd'
      rw [keyLt'_oneType]
      exact lt_rows ra rb (by simpa [alike] using hal _ hd _ hd') (room hd) hq
    · rw [keyKind'_eq, List.mapM_toArray, map_eq_pure_bind]
      refine wpAny_bind (wpAny_bind (f2 _ _ (wpAny_pure ?_)))
      rw [if_neg (by rw [nall]; exact Bool.false_ne_true), if_neg hg]
      rw [oneTypeOnly'_eq, List.mapM_toArray, map_eq_pure_bind]
      refine wpAny_bind (wpAny_bind (wpAny_bind (kas_mapM (r := Value.type "tuple") _ (fun v hv Q' hq => ?_) (wpAny_pure ?_))))
      · obtain ⟨d, hd, as, r⟩ := e.left v hv
        obtain ⟨xs, rfl⟩ := ht d hd
        exact (looks_reads r).here hq
      · have hall : ((List.map (fun _ => Value.type "tuple") vs).toArray.all fun x => x == Value.type "tuple") = true := by
          simp only [List.all_toArray, List.all_map, List.all_eq_true]
          intro _ _
          rfl
        have h0 : (List.map (fun _ => Value.type "tuple") vs).toArray[0]? = some (Value.type "tuple") := by
          match vs, h2 with
          | _ :: _, _ => simp
        rw [h0]
        simp only [hall, if_true]
        exact wpAny_pure (wpAny_pure hq)
end
end PySem.W
namespace Dn
open PySem L2
open PySem.W (alike alikeAll dataLt dataLe EachIs AllAlike Sortable SortsAt copyHeap sortingHeap copyHeap_at sorting_copy_old list_sort_vals sortVals sortVals_data sortVals_length each_map bound_map sort_maps)
open PyProof.Rows (sortedAll collect_list entry_proto_collect' entry_list_iadd' listItems_at listUpdate_at get?_update_seq seqObj size_push' kind_sorted plain_sorted entry_sorted args_sorted1 args_list_sort slot_list_sort entry_list_sort)
namespace O
/-- sorted(..): the items of a shape, rows too -/
def sortx (s : Sh) : PV → Option PV
  | .lst xs => if Nat.ble s.deep 50 && hasL s xs && xs.length.ble 1000000 then some (.lst (sortP xs)) else none
  | .tup xs => if Nat.ble s.deep 50 && hasL s xs && xs.length.ble 1000000 then some (.lst (sortP xs)) else none
  | _ => none
end O
section
variable {prog : Program} {w : World} {A : Around} {E : Value → Shared → Prop} {s : Shared}
theorem sorted_datX {β : Type} {enc : β → PyData} {R : Value → β → Prop} {bs : List β} {l : Addr} {vs : List Value} {Q : Value → Shared → Prop} (hc : s.heap.IsList l vs.toArray ∨ s.heap.IsTuple l vs.toArray) (er0 : EachIs R vs bs)
    (er : EachIs (fun v b => ∃ as, Reads s.heap v (enc b) as) vs bs) (hal : AllAlike (bs.map enc)) (hk : Sortable (bs.map enc) ∨ ∀ d, d ∈ bs.map enc → ∃ xs, d = .tuple xs) (hL : bs.length ≤ sizeLine) (hu : ∀ b, b ∈ bs → A.units + 2 + (enc b).depth < cLine)
    (hq : ∀ out, out.length = bs.length → EachIs R out (bs.mergeSort (dataLe false enc)) → Q (.ref (s.heap.objs.size + 1)) { s with heap := sortedAll s.heap vs (List.toArray out) }) : wpAny (model prog w) A (call (.builtin "sorted") [.ref l]) Q E s := by
  have hz : vs.length ≤ sizeLine := by rw [er0.length]; exact hL
  have er' : EachIs (fun v b => ∃ as, Reads (sortingHeap (copyHeap s.heap vs) (s.heap.objs.size + 1) vs) v (enc b) as) vs bs := er.mono fun _ _ ⟨as, r⟩ => ⟨as, PyProof.Rows.Reads.keeps (fun _ _ => sorting_copy_old) r⟩
  have S : SortsAt prog w A.in1.in1 { s with heap := sortingHeap (copyHeap s.heap vs) (s.heap.objs.size + 1) vs } _ _ := (fun em => hk.elim (fun hk => SortsAt.data em hal hk (bound_map hu)) fun hk => SortsAt.rows em hal hk (bound_map hu)) (each_map (R := fun v d => ∃ as, Reads (sortingHeap (copyHeap s.heap vs) (s.heap.objs.size + 1) vs) v d as) enc er')
  refine sorted_col hz hc fun E' => ?_
  refine list_sort_vals (s := { s with heap := copyHeap s.heap vs }) (copyHeap_at s.heap vs) S hz ⟨rfl, ?_⟩
  exact hq _ (by rw [sortVals_length false rfl]; exact er0.length) (sortVals_data false er0 er' hal)
end
section
variable {Γ : Pg} {n : Nat} {c fa : Nat → Addr} {G : Fr} {N : List Str} {sc : Scope} {X : Cx} {κ : Cn} {cs : CS}
variable {a b e d : Expr} {da db dd : DE} {pos p : Pos} {es : List Expr} {ds : DEs}
def rSortX (K : PySem.W.Frag) (m : Nat) : List V → Hp → VK → Prop := fun vs H Q => ∃ (a : Addr) (l : List (PV × V)), vs = [.ref a] ∧ (SqL K H a (l.map (·.2)) ∨ SqT K H a (l.map (·.2))) ∧ (∀ b ∈ l, Dp K H b.2 (toPD b.1)) ∧ AllAlike (l.map fun b => toPD b.1) ∧ (Sortable (l.map fun b => toPD b.1) ∨ ∀ d, d ∈ (l.map fun b => toPD b.1) → ∃ xs, d = PyData.tuple xs) ∧
  (∀ b ∈ l, (toPD b.1).depth ≤ m) ∧ ∀ p, H p = none → Q (.ref p) (upd H p (.lst ((l.mergeSort (dataLe false fun b => toPD b.1)).map (·.2))))
theorem cr_sortX {m : Nat} (hu : X.A.units + 2 + m < cLine) : CallR X (.builtin "sorted") (rSortX X.K m) := by
  intro pins s σ H vs us Q I r h
  obtain ⟨a, l, rfl, hs, hd, hal, hk, hdp, q⟩ := h
  obtain ⟨u, rfl, ru⟩ := vals1 r
  obtain rfl : u = Value.ref a := ru
  have go : ∀ its : List Value, Vals (l.map (·.2)) its → its.length ≤ sizeLine → (s.heap.IsList a its.toArray ∨ s.heap.IsTuple a its.toArray) → wpAny (model X.prog X.w) X.A (call (.builtin "sorted") [.ref a]) (EP X pins σ Q) X.xe s := fun its rv hz hc => by
    have e0 := vals_each rv
    refine sorted_datX (enc := fun b : PV × V => toPD b.1) (R := fun u b => RelV b.2 u) hc (e0.mono fun _ _ z => z.1) (e0.mono fun u b z => Dp.reads I _ _ _ (hd b z.2) z.1) hal hk (by rw [← e0.length]; exact hz) (fun b hb => by have := hdp b hb; omega) fun out hl eo => ?_
    have ev := each_vals eo
    refine ⟨.ref (s.heap.objs.size + 1), upd H (s.heap.objs.size + 1) (.lst ((l.mergeSort (dataLe false fun b => toPD b.1)).map (·.2))), I.laid (t' := s.toks) (fun b o e => PyProof.Rows.sortedAll_old e) (Nat.le_succ _) ⟨?_, out, ?_⟩, rfl, q _ (I.hok.fresh (Nat.le_succ _))⟩
    · rw [List.length_map, List.length_mergeSort, ← e0.length]
      exact hz
    · obtain ⟨k, hk⟩ := PyProof.Rows.sortedAll_at s.heap its out.toArray
      exact ⟨k, ev, hk⟩
  rcases hs with hs | hs
  · obtain ⟨its, rv, hl, hz⟩ := I.list hs
    exact go its rv (by rw [← rv.length]; exact hz) (.inl hl.isList)
  · obtain ⟨its, rv, hl, hz⟩ := I.tuple hs
    exact go its rv (by rw [← rv.length]; exact hz) (.inr hl)
theorem deep_sortable (s : Sh) {l : List PV} (h : hasL s l = true) : Sortable (l.map toPD) ∨ ∀ d, d ∈ l.map toPD → ∃ xs, d = PyData.tuple xs := by
  have hm := hasL_mem h
  have one : ∀ d ∈ l.map toPD, ∃ b, has s b = true ∧ toPD b = d := fun d hd => by
    obtain ⟨b, hb, e⟩ := List.mem_map.mp hd
    exact ⟨b, hm b hb, e⟩
  cases s with
  | int => exact .inl (top_sortable rfl h)
  | str => exact .inl (top_sortable rfl h)
  | row t =>
    refine .inr fun d hd => ?_
    obtain ⟨b, hb, rfl⟩ := one d hd
    cases b <;> simp only [has, Bool.false_eq_true] at hb
    exact ⟨_, by simp only [toPD]; rfl⟩
  | two t u =>
    refine .inr fun d hd => ?_
    obtain ⟨b, hb, rfl⟩ := one d hd
    obtain ⟨x, y, rfl, _, _⟩ := has_two hb
    exact ⟨_, by simp only [toPD]; rfl⟩
  | three t u v =>
    refine .inr fun d hd => ?_
    obtain ⟨b, hb, rfl⟩ := one d hd
    obtain ⟨x, y, z, rfl, _⟩ := has_three hb
    exact ⟨_, by simp only [toPD]; rfl⟩
theorem o_sortx {sh : Sh} (hx : okB Γ sc ("sorted" : Str) = true) (ha : SE Γ N sc a da) (hst : ∀ env, starEach [a] env = [(false, eval a env)] := by intro _; rfl) : SEF Γ N sc (.Call (.Name ("sorted" : Str) p) [a] [] pos) (D.op1 (O.sortx sh) da) := fun n c fa G X g => by
  obtain ⟨g1, g2, g3, g4⟩ := okB_gl g hx
  refine (pe_callB (cr_sortX (m := 50) (by have := g.u64; omega)) g1 g2 (by decide +kernel) (pa_cons (ha n c fa G X g) pa_nil (hst _)) g3 g4 (hst _) rfl).imp ?_
  rintro σ H Q ⟨ρ, st, σp, A, R, o⟩
  refine tE_bind A R o fun v st1 ρ1 H1 u e1 A1 R1 ru o1 => ?_
  obtain ⟨res, ef, k⟩ := o1.of
  have rp := RR.of A1.wd ru
  obtain ⟨ps, rfl, k2⟩ := k ρ1 H1 Ext.refl A1
  have go : ∀ (xs : List PV) (vs : List V) (t : Addr), (SqL X.K H1 t vs ∨ SqT X.K H1 t vs) → RVs (cnOf X c) (Fo G.B ρ1) ρ1 H1 xs vs → (if Nat.ble sh.deep 50 && hasL sh xs && xs.length.ble 1000000 then some (PV.lst (sortP xs)) else none) = some (.lst ps) → rSortX X.K 50 [.ref t] H1 Q := fun xs vs t hs r ef => by
    split at ef
    · rename_i hh
      simp only [Bool.and_eq_true] at hh
      cases ef
      obtain ⟨l, rfl, rfl, hr⟩ := pair_up r
      have hm := hasL_mem hh.1.2
      have hb : ∀ b ∈ l, has sh b.1 = true := fun b hb => hm b.1 (List.mem_map.mpr ⟨b, hb, rfl⟩)
      have e0 : (l.map fun b => toPD b.1) = (l.map (·.1)).map toPD := by rw [List.map_map]; rfl
      refine ⟨t, l, rfl, hs, fun b q => has_dp sh b.1 b.2 (hb b q) (hr b q), ?_, by rw [e0]; exact deep_sortable sh hh.1.2, fun b q => Nat.le_trans (has_depth sh _ (hb b q)) (Nat.le_of_ble_eq_true hh.1.1), fun q hq => ?_⟩
      · intro d hd d' hd'
        obtain ⟨x, hx, rfl⟩ := List.mem_map.mp hd
        obtain ⟨y, hy, rfl⟩ := List.mem_map.mp hd'
        exact akin_pd _ _ (has_akin sh _ _ (hb x hx) (hb y hy))
      · refine k2 _ q ?_ hq
        have e1 : (l.mergeSort (dataLe false fun b => toPD b.1)).map (·.1) = sortP (l.map (·.1)) := by
          rw [sortP_is hh.1.2]
          exact sort_maps (s := leP) (fun b : PV × V => b.1) fun _ _ _ _ => rfl
        rw [← e1]
        exact rvs_map fun b hb' => hr b ((List.mergeSort_perm _ _).mem_iff.mp hb')
    · cases ef
  unfold O.sortx at ef
  split at ef
  · rename_i eq
    rw [eq] at rp
    obtain ⟨a', xs, rfl, h1, r1⟩ := rr_lst rp
    exact go _ xs a' (.inl (SqL.of h1)) r1 ef
  · rename_i eq
    rw [eq] at rp
    obtain ⟨a', xs, rfl, h1, r1⟩ := rr_tup rp
    exact go _ xs a' (.inr h1) r1 ef
  · cases ef
theorem lo_sortx {sh : Sh} : LstOnly (D.op1 (O.sortx sh) da) := lo_op1 fun p v h => by
  unfold O.sortx at h
  split at h
  · split at h <;> cases h; exact ⟨_, rfl⟩
  · split at h <;> cases h; exact ⟨_, rfl⟩
  · cases h
end
end Dn

/-! Statements. -/
namespace Dn
open PySem L2
/-- what is wanted behind a statement -/
def FlP (κ : Cn) (G : Fr) (Z : Ends) : Flow × Env → Store → List Addr → Hp → Prop := fun p _ ρ' H' => match p.1 with
  | .nx => ∀ σ', REnv κ (Fo G.B ρ') ρ' H' p.2 σ' → Z.nx σ' H'
  | .ret v => ∀ u, RV κ (Fo G.B ρ') ρ' H' v u → Z.rt u H'
  | .brk => ∀ σ', REnv κ (Fo G.B ρ') ρ' H' p.2 σ' → Z.bk σ' H'
  | .cnt => ∀ σ', REnv κ (Fo G.B ρ') ρ' H' p.2 σ' → Z.ct σ' H'
def tS (κ : Cn) (G : Fr) (cs : CS) (d : DS) : TS := fun Z σ H => ∃ ρ st σp, At κ G ρ st H ∧ REnv κ (Fo G.B ρ) ρ H σp σ ∧ Out κ G ρ H (d cs σp st) (FlP κ G Z)
def SS (Γ : Pg) (N : List Str) (sc : Scope) (x : Stmt) (d : DS) : Prop := ∀ (n : Nat) (c fa : Nat → Addr) (G : Fr) (X : Cx), Good Γ n c fa G N sc X → (∀ x, X.fn x = true) → PS X x (tS (cnOf X c) G (callN Γ.tbl n) d)
def SSs (Γ : Pg) (N : List Str) (sc : Scope) (x : List Stmt) (d : DS) : Prop := ∀ (n : Nat) (c fa : Nat → Addr) (G : Fr) (X : Cx), Good Γ n c fa G N sc X → (∀ x, X.fn x = true) → PSs X x (tS (cnOf X c) G (callN Γ.tbl n) d)
theorem _root_.L2.PS.imp {X : Cx} {e : Stmt} {t t' : TS} (h : PS X e t) (i : ∀ Z σ H, t' Z σ H → t Z σ H) : PS X e t' := ⟨fun pins s σ H Q I q => h.run pins s σ H Q I (i Q σ H q)⟩
theorem _root_.L2.PSs.imp {X : Cx} {e : List Stmt} {t t' : TS} (h : PSs X e t) (i : ∀ Z σ H, t' Z σ H → t Z σ H) : PSs X e t' := ⟨fun pins s σ H Q I q => h.run pins s σ H Q I (i Q σ H q)⟩
section
variable {Γ : Pg} {n : Nat} {c fa : Nat → Addr} {G : Fr} {N : List Str} {sc scope : Scope} {X : Cx} {κ : Cn} {cs : CS}
variable {a b e tg iter elt t : Expr} {da db dd de d dt : DE} {pos p : Pos} {es : List Expr} {ds : DEs} {x y : Stmt} {xs ys : List Stmt} {dx dy : DS} {g : DTg}
theorem SSs.nil : SSs Γ N sc [] D.pass := fun n c fa G X gd hf => pss_nil.imp fun Z σ H ⟨ρ, st, σp, A, R, o⟩ => o.ret A σ R
theorem SS.pass : SS Γ N sc (.Pass pos) D.pass := fun n c fa G X gd hf => ps_pass.imp fun Z σ H ⟨ρ, st, σp, A, R, o⟩ => o.ret A σ R
theorem SS.brk : SS Γ N sc (.Break pos) D.brk := fun n c fa G X gd hf => ps_break.imp fun Z σ H ⟨ρ, st, σp, A, R, o⟩ => o.ret A σ R
theorem SS.cnt : SS Γ N sc (.Continue pos) D.cnt := fun n c fa G X gd hf => ps_continue.imp fun Z σ H ⟨ρ, st, σp, A, R, o⟩ => o.ret A σ R
theorem SS.stuck : SS Γ N sc x D.stuck := fun n c fa G X gd hf => ps_never.imp fun Z σ H ⟨ρ, st, σp, A, R, o⟩ => o.elim
theorem SSs.stuck : SSs Γ N sc xs D.stuck := fun n c fa G X gd hf => pss_never.imp fun Z σ H ⟨ρ, st, σp, A, R, o⟩ => o.elim
theorem SSs.one (h : SS Γ N sc x dx) : SSs Γ N sc [x] dx := fun n c fa G X gd hf => pss_one (h n c fa G X gd hf)
theorem SSs.cons (h : SS Γ N sc x dx) (hs : SSs Γ N sc xs dy) : SSs Γ N sc (x :: xs) (D.seq dx dy) := fun n c fa G X gd hf => (pss_cons (h n c fa G X gd hf) (hs n c fa G X gd hf)).imp fun Z σ H ⟨ρ, st, σp, A, R, o⟩ => by
  refine ⟨ρ, st, σp, A, R, o.bind.mono fun p st1 ρ1 H1 e1 A1 o1 => ?_⟩
  obtain ⟨f, σ1⟩ := p
  cases f with
  | nx => exact fun σ' R' => ⟨ρ1, st1, σ1, A1, R', o1⟩
  | ret v => exact o1.ret A1
  | brk => exact o1.ret A1
  | cnt => exact o1.ret A1
theorem SS.expr (h : SE Γ N sc e d) (hs : ∀ env, swapsWith e none pos.line env = pure false := by intro _; rfl) : SS Γ N sc (.Expr e pos) (D.expr d) := fun n c fa G X gd hf => (ps_expr (h n c fa G X gd) (hs _)).imp fun Z σ H ⟨ρ, st, σp, A, R, o⟩ =>
  tE_bind A R o fun v st1 ρ1 H1 u e1 A1 R1 r o1 => o1.ret A1 σ R1
theorem SS.ret (h : SE Γ N sc e d) : SS Γ N sc (.Return (some e) pos) (D.ret d) := fun n c fa G X gd hf => (ps_ret (h n c fa G X gd)).imp fun Z σ H ⟨ρ, st, σp, A, R, o⟩ =>
  tE_bind A R o fun v st1 ρ1 H1 u e1 A1 R1 r o1 => o1.ret A1 u r
theorem SS.retN : SS Γ N sc (.Return none pos) (D.ret (D.c .non)) := fun n c fa G X gd hf => ps_retN.imp fun Z σ H ⟨ρ, st, σp, A, R, o⟩ => by
  have o : Out (cnOf X c) G ρ H (.ok (Dn.Flow.ret .non, σp) st) _ := o
  exact o.ret A _ (by simp only [RV])
theorem SS.if (ht : ST Γ N sc t dt) (h1 : SSs Γ N sc xs dx) (h2 : SSs Γ N sc ys dy) : SS Γ N sc (.If t xs ys pos) (D.cond dt dx dy) := fun n c fa G X gd hf => (ps_if (ht n c fa G X gd) (h1 n c fa G X gd hf) (h2 n c fa G X gd hf)).imp fun Z σ H ⟨ρ, st, σp, A, R, o⟩ => by
  refine tT_bind A R o fun v st1 ρ1 H1 e1 A1 R1 o1 => ?_
  split at o1
  · exact ⟨true, rfl, ⟨ρ1, st1, σp, A1, R1, o1⟩⟩
  · exact ⟨false, rfl, ⟨ρ1, st1, σp, A1, R1, o1⟩⟩
  · exact o1.elim
/-- the block's scope put into a frame's -/
theorem env_sc {P : PySem.Env → Prop} (g : Good Γ n c fa G N sc X) (h : ∀ env : PySem.Env, P { env with scope := sc }) : P X.env := by
  have := h X.env
  rw [← g.hsc] at this
  exact this
theorem SS.asg (h : SE Γ N sc e d) (hg : SG Γ N sc tg g) (hs : ∀ env : PySem.Env, swapsWithSole [tg] e pos.line { env with scope := sc } = pure false := by intro _; rfl) (hw : ∀ env : PySem.Env, swappedStores [tg] e { env with scope := sc } = pure none := by intro _; rfl)
    (h1 : ∀ env, (assignEach [tg] env).map (·.2) = [assign tg env] := by intro _; rfl) : SS Γ N sc (.Assign [tg] e pos) (D.asg g d) := fun n c fa G X gd hf => (ps_asg (h n c fa G X gd) (hg n c fa G X gd hf) (env_sc (P := fun env => swapsWithSole [tg] e pos.line env = pure false) gd hs) (env_sc (P := fun env => swappedStores [tg] e env = pure none) gd hw) (h1 _)).imp fun Z σ H ⟨ρ, st, σp, A, R, o⟩ => by
  refine tE_bind A R o fun v st1 ρ1 H1 u e1 A1 R1 r o1 => ?_
  refine ⟨ρ1, st1, σp, v, A1, R1, r, o1.bind.mono fun σ2 st2 ρ2 H2 e2 A2 o2 σ' R' => o2.ret A2 σ' R'⟩
def okP (N : List Str) (sc : Scope) (i j : Nat) (x y : Str) : Bool := okO N sc i x && (okO N sc j y && !(i.beq j))
theorem SS.par {i j : Nat} {x y : Str} {px py pt pt2 : Pos} {kt k2} (h : okP N sc i j x y = true) (ha : SE Γ N sc a da) (hb : SE Γ N sc b db) (hw : ∀ env : PySem.Env, swappedStores [.Tuple [.Name x px, .Name y py] kt pt] (.Tuple [a, b] k2 pt2) { env with scope := sc } = pure (some [x, y]) := by intro _; rfl)
    (hst : ∀ env, starEach [a, b] env = [(false, eval a env), (false, eval b env)] := by intro _; rfl) (hst2 : ∀ env, starEach [b] env = [(false, eval b env)] := by intro _; rfl) : SS Γ N sc (.Assign [.Tuple [.Name x px, .Name y py] kt pt] (.Tuple [a, b] k2 pt2) pos) (D.par i j da db) := fun n c fa G X gd hf => by
  unfold okP okO at h
  simp only [Bool.and_eq_true, decide_eq_true_eq, Bool.not_eq_true'] at h
  obtain ⟨⟨h1, h2⟩, ⟨h3, h4⟩, h5⟩ := h
  have hij : i ≠ j := fun z => by subst z; simp at h5
  have e1 : starEach [a, b] X.env = (false, eval a X.env) :: starEach [b] X.env := by rw [hst, hst2]
  refine (ps_par gd.calm gd.nd (by rw [gd.hN]; exact h1) (by rw [gd.hN]; exact h3) hij (by rw [gd.hsc]; exact h2) (by rw [gd.hsc]; exact h4) (pa_cons (ha n c fa G X gd) (pa_cons (hb n c fa G X gd) pa_nil (hst2 _)) e1)
    (env_sc (P := fun env => swappedStores [.Tuple [.Name x px, .Name y py] kt pt] (.Tuple [a, b] k2 pt2) env = pure (some [x, y])) gd hw)).imp ?_
  rintro Z σ H ⟨ρ, st, σp, A, R, o⟩
  refine tE_bind A R o fun v st1 ρ1 H1 u e1 A1 R1 r o1 => ?_
  refine tE_bind A1 R1 o1 fun w st2 ρ2 H2 z e2 A2 R2 rz o2 => ?_
  exact ⟨u, z, rfl, o2.ret A2 _ ((R2.set (r.mono e2.mono)).set rz)⟩
def okP3 (N : List Str) (sc : Scope) (i j l : Nat) (x y z : Str) : Bool := (okO N sc i x && (okO N sc j y && okO N sc l z)) && (!(i.beq j) && (!(i.beq l) && !(j.beq l)))
theorem beq_no {i j : Nat} (h : i.beq j = false) : i ≠ j := fun z => by subst z; simp at h
theorem SS.par3 {i j l : Nat} {x y z : Str} {px py pz pt pt2 : Pos} {kt k2} {e3 : Expr} {d3 : DE} (h : okP3 N sc i j l x y z = true) (ha : SE Γ N sc a da) (hb : SE Γ N sc b db) (hd : SE Γ N sc e3 d3)
    (hw : ∀ env : PySem.Env, swappedStores [.Tuple [.Name x px, .Name y py, .Name z pz] kt pt] (.Tuple [a, b, e3] k2 pt2) { env with scope := sc } = pure (some [x, y, z]) := by intro _; rfl)
    (hst : ∀ env, starEach [a, b, e3] env = (false, eval a env) :: starEach [b, e3] env := by intro _; rfl) (hst2 : ∀ env, starEach [b, e3] env = (false, eval b env) :: starEach [e3] env := by intro _; rfl) (hst3 : ∀ env, starEach [e3] env = [(false, eval e3 env)] := by intro _; rfl) :
    SS Γ N sc (.Assign [.Tuple [.Name x px, .Name y py, .Name z pz] kt pt] (.Tuple [a, b, e3] k2 pt2) pos) (D.par3 i j l da db d3) := fun n c fa G X gd hf => by
  unfold okP3 okO at h
  simp only [Bool.and_eq_true, decide_eq_true_eq, Bool.not_eq_true'] at h
  obtain ⟨⟨⟨h1, h2⟩, ⟨h3, h4⟩, h5, h6⟩, h7, h8, h9⟩ := h
  refine (ps_par3 gd.calm gd.nd (by rw [gd.hN]; exact h1) (by rw [gd.hN]; exact h3) (by rw [gd.hN]; exact h5) (beq_no h7) (beq_no h8) (beq_no h9) (by rw [gd.hsc]; exact h2) (by rw [gd.hsc]; exact h4) (by rw [gd.hsc]; exact h6)
    (pa_cons (ha n c fa G X gd) (pa_cons (hb n c fa G X gd) (pa_cons (hd n c fa G X gd) pa_nil (hst3 _)) (hst2 _)) (hst _)) (env_sc (P := fun env => swappedStores [.Tuple [.Name x px, .Name y py, .Name z pz] kt pt] (.Tuple [a, b, e3] k2 pt2) env = pure (some [x, y, z])) gd hw)).imp ?_
  rintro Z σ H ⟨ρ, st, σp, A, R, o⟩
  refine tE_bind A R o fun v st1 ρ1 H1 u e1 A1 R1 r o1 => ?_
  refine tE_bind A1 R1 o1 fun w st2 ρ2 H2 z2 e2 A2 R2 rz o2 => ?_
  refine tE_bind A2 R2 o2 fun w3 st3 ρ3 H3 z3 e3 A3 R3 rz3 o3 => ?_
  exact ⟨u, z2, z3, rfl, o3.ret A3 _ (((R3.set ((r.mono e2.mono).mono e3.mono)).set (rz.mono e3.mono)).set rz3)⟩
theorem STs.nil : STs Γ N sc [] [] := trivial
theorem STs.one (h : ST Γ N sc t dt) : STs Γ N sc [t] [dt] := h
/-- name = [..] -/
theorem SS.setLc {i : Nat} {y : Str} {py spos : Pos} {own : List (Str × Nat)} {ix : List Nat} {ifs : List Expr} {it : DI} {tgd : DTg} {ts : List DE} {d' : DE} (hy : okO N sc i y = true) (ok : blkC N sc scope own = true) (hix : own.map (·.2) = ix) (hi : SI Γ N sc tg iter it) (ht : Keeps ix tg tgd Γ N (relSc scope sc))
    (hts : STs Γ N (relSc scope sc) ifs ts) (he : SE Γ N (relSc scope sc) elt de) (hv : ∀ κ G cs σ H Q, tE κ G cs d' σ H Q → tF κ G cs (Dn.D.lc ix it tgd ts de) σ H Q) (hsw : ∀ env : PySem.Env, swapsWith (.ListComp elt [⟨tg, iter, ifs, 0⟩] scope pos) (some (.Name y py)) spos.line { env with scope := sc } = pure true := by intro _; rfl)
    (hfs : ∀ env x, foldedSetIterable iter env x = pure x := by intro _ _; rfl) : SS Γ N sc (.Assign [.Name y py] (.ListComp elt [⟨tg, iter, ifs, 0⟩] scope pos) spos) (D.asg (D.tn i) d') := fun n c fa G X g hf => by
  unfold okO at hy
  simp only [Bool.and_eq_true, decide_eq_true_eq] at hy
  subst hix
  refine (ps_setLc (g := fun v σ H Q => ∃ D, gW (own.map (·.2)) (cnOf X c) (G.blk D) (callN Γ.tbl n) tgd v σ H Q) (tt := fun σ H Q => ∃ D, tTs (cnOf X c) (G.blk D) (callN Γ.tbl n) ts σ H Q) (te := fun σ H Q => ∃ D, tE (cnOf X c) (G.blk D) (callN Γ.tbl n) de σ H Q) g.calm g.nd (by rw [g.hN]; exact hy.1) (by rw [g.hsc]; exact hy.2) (env_sc (P := fun env => swapsWith (.ListComp elt [⟨tg, iter, ifs, 0⟩] scope pos) (some (.Name y py)) spos.line env = pure true) g hsw) (hi n c fa G X g) (by rw [g.hN, g.hsc]; exact blkOk_by ok) (fun s H C cl fp => PG_ex fun D : Addr => ht.pg (g.blk ok D s H C cl fp)) (fun s H C cl fp => PTs_ex fun D : Addr => hts.pts (g.blk ok D s H C cl fp))
    (fun s H C cl fp => PE_ex fun D : Addr => he n c fa _ _ (g.blk ok D s H C cl fp)) (hfs _)).imp ?_
  rintro Z σ H ⟨ρ, st, σp, A, R, o⟩
  refine lc_imp _ _ _ (hv _ _ _ _ _ _ ?_)
  refine tE_bind A R o fun v st1 ρ1 H1 u e1 A1 R1 r o1 => ?_
  exact o1.ret A1 _ (R1.set r)
/-! ### loops -/
theorem SS.for {it : DI} (hi : SI Γ N sc tg iter it) (hg : SG Γ N sc tg g) (hb : SSs Γ N sc xs dx) (hfs : ∀ env x, foldedSetIterable iter env x = pure x := by intro _ _; rfl) : SS Γ N sc (.For tg iter xs [] pos) (Dn.D.for g it dx) := fun n c fa G X gd hf => by
  refine (ps_for gd.po gd.calm (hi n c fa G X gd) (hg n c fa G X gd hf) (hb n c fa G X gd hf) (hfs _)).imp ?_
  rintro Z σ H ⟨ρ, st, σp, A, R, o⟩
  refine ⟨ρ, st, σp, A, R, o.bind.mono fun pr st1 ρ1 H1 e1 A1 o1 J hJ => ?_⟩
  obtain ⟨vs, src⟩ := pr
  let cs := callN Γ.tbl n
  have o1 : Out (cnOf X c) G ρ1 H1 (Dn.D.forL g dx cs src vs vs σp st1) (FlP (cnOf X c) G Z) := o1
  let W : Nat → St → Hp → Prop := fun i σ H => ∃ ρ st σp, Ext ρ1 H1 ρ H ∧ At (cnOf X c) G ρ st H ∧ REnv (cnOf X c) (Fo G.B ρ) ρ H σp σ ∧ Out (cnOf X c) G ρ H (Dn.D.forL g dx cs src vs (vs.drop i) σp st) (FlP (cnOf X c) G Z)
  refine ⟨fun i m σ H => m = vs.length - i ∧ i ≤ vs.length ∧ W i σ H, ⟨vs.length, by simp, Nat.zero_le _, ρ1, st1, σp, Ext.refl, A1, R.mono e1.mono, o1⟩, ?_⟩
  rintro i m σ2 H2 ⟨rfl, hi, ρ2, st2, σp2, e2, A2, R2, o2⟩
  by_cases hlt : i < vs.length
  · refine .inr ?_
    have hdrop : vs.drop i = vs[i] :: vs.drop (i + 1) := List.drop_eq_getElem_cons hlt
    rw [hdrop] at o2
    have o2 : Out (cnOf X c) G ρ2 H2 (if Dn.D.stands src vs st2 = true then (g cs vs[i] σp2 st2).bind fun σ st => (dx cs σ st).bind fun p st => match p.1 with
      | .nx => Dn.D.forL g dx cs src vs (vs.drop (i + 1)) p.2 st
      | .cnt => Dn.D.forL g dx cs src vs (vs.drop (i + 1)) p.2 st
      | .brk => .ok (.nx, p.2) st
      | .ret v => .ok (.ret v, p.2) st else .bad) (FlP (cnOf X c) G Z) := o2
    split at o2
    · rename_i hs
      obtain ⟨go, yl⟩ := hJ.go G.B i ρ2 st2 H2 (fun a _ z => z) e2 A2.wd hs hlt
      refine ⟨go, W (i + 1), fun σ' H' w => ⟨vs.length - (i + 1), by omega, rfl, hlt, w⟩, fun x H3 hy => ?_⟩
      obtain ⟨e3, W3, pv, ep, rp⟩ := yl x H3 hy
      rw [List.getElem?_eq_getElem hlt] at ep
      cases ep
      have A3 := A2.step e3 W3
      refine ⟨ρ2, st2, σp2, vs[i], A3, R2.mono e3.mono, rp, (o2.weak e3).bind.mono fun σ4 st4 ρ4 H4 e4 A4 o4 σ4' R4 => ?_⟩
      refine ⟨ρ4, st4, σ4, A4, R4, o4.bind.mono fun p st5 ρ5 H5 e5 A5 o5 => ?_⟩
      have e6 := ((e2.trans e3).trans e4).trans e5
      obtain ⟨f, σ5⟩ := p
      cases f with
      | nx => exact fun σ' R' => ⟨ρ5, st5, σ5, e6, A5, R', o5⟩
      | cnt => exact fun σ' R' => ⟨ρ5, st5, σ5, e6, A5, R', o5⟩
      | brk => exact o5.ret A5
      | ret v => exact o5.ret A5
    · exact o2.elim
  · refine .inl ?_
    have hdrop : vs.drop i = [] := List.drop_eq_nil_of_le (Nat.le_of_not_lt hlt)
    rw [hdrop] at o2
    have o2 : Out (cnOf X c) G ρ2 H2 (if Dn.D.stands src vs st2 = true then .ok (.nx, σp2) st2 else .bad) (FlP (cnOf X c) G Z) := o2
    split at o2
    · rename_i hs
      exact ⟨hJ.stop G.B i ρ2 st2 H2 (fun a _ z => z) e2 A2.wd hs (Nat.le_of_not_lt hlt), o2.ret A2 σ2 R2⟩
    · exact o2.elim
theorem SS.while {m : Nat} (ht : ST Γ N sc t dt) (hb : SSs Γ N sc xs dx) : SS Γ N sc (.While t xs [] pos) (Dn.D.while m dt dx) := fun n c fa G X gd hf => by
  refine (ps_while gd.po (ht n c fa G X gd) (hb n c fa G X gd hf)).imp ?_
  rintro Z σ H ⟨ρ, st, σp, A, R, o⟩
  let cs := callN Γ.tbl n
  let W : Nat → St → Hp → Prop := fun i σ H => ∃ ρ st σp, At (cnOf X c) G ρ st H ∧ REnv (cnOf X c) (Fo G.B ρ) ρ H σp σ ∧ Out (cnOf X c) G ρ H (Dn.D.whileL dt dx cs i σp st) (FlP (cnOf X c) G Z)
  refine ⟨W, ⟨m, ρ, st, σp, A, R, o⟩, ?_⟩
  rintro i σ2 H2 ⟨ρ2, st2, σp2, A2, R2, o2⟩
  cases i with
  | zero => exact (show False from o2).elim
  | succ i =>
    have o2 : Out (cnOf X c) G ρ2 H2 ((dt cs σp2 st2).bind fun x st => match x with
      | .bl true => (dx cs σp2 st).bind fun p st => (match p.1 with
          | .nx => Dn.D.whileL dt dx cs i p.2 st
          | .cnt => Dn.D.whileL dt dx cs i p.2 st
          | .brk => .ok (.nx, p.2) st
          | .ret v => .ok (.ret v, p.2) st)
      | .bl false => .ok (.nx, σp2) st
      | _ => .bad) (FlP (cnOf X c) G Z) := o2
    refine tT_bind A2 R2 o2 fun v st3 ρ3 H3 e3 A3 R3 o3 => ?_
    split at o3
    · refine ⟨true, rfl, W i, fun σ' H' w => ⟨i, by omega, w⟩, ρ3, st3, σp2, A3, R3, o3.bind.mono fun p st5 ρ5 H5 e5 A5 o5 => ?_⟩
      obtain ⟨f, σ5⟩ := p
      cases f with
      | nx => exact fun σ' R' => ⟨ρ5, st5, σ5, A5, R', o5⟩
      | cnt => exact fun σ' R' => ⟨ρ5, st5, σ5, A5, R', o5⟩
      | brk => exact o5.ret A5
      | ret v => exact o5.ret A5
    · exact ⟨false, rfl, o3.ret A3 σ2 R3⟩
    · exact o3.elim
end
end Dn

/-! A def keeps its promise. -/
namespace Dn
open PySem L2
open PyProof.Rows (envOfC)
/-! ### values without the store's things -/
section
variable {κ : Cn} {B F F' : Addr → Prop} {ρ ρ' : List Addr} {H H' : Hp} {st : Store}
mutual
theorem RV.plain : ∀ {p : PV} {v : V}, plain p = true → RV κ F ρ H p v → RV κ F ρ' H p v
  | .non, v, _, h => by simp only [RV] at h ⊢; exact h
  | .bl b, v, _, h => by simp only [RV] at h ⊢; exact h
  | .int i, v, _, h => by simp only [RV] at h ⊢; exact h
  | .str x, v, _, h => by simp only [RV] at h ⊢; exact h
  | .tup ps, v, hp, h => by
    simp only [RV] at h ⊢
    obtain ⟨a, xs, e, h1, h2⟩ := h
    exact ⟨a, xs, e, h1, RVs.plain hp h2⟩
  | .lst ps, v, hp, h => by
    simp only [RV] at h ⊢
    obtain ⟨a, xs, e, h1, n, h2⟩ := h
    exact ⟨a, xs, e, h1, n, RVs.plain hp h2⟩
  | .scr ns, v, _, h => by simp only [RV] at h ⊢; exact h
  | .dic false kvs, v, hp, h => by
    simp only [RV] at h ⊢
    obtain ⟨a, es, e, h1, n, h2⟩ := h
    exact ⟨a, es, e, h1, n, RKs.plain hp h2⟩
  | .dic true kvs, v, hp, h => by
    simp only [RV] at h ⊢
    obtain ⟨a, es, e, h1, n, h2⟩ := h
    exact ⟨a, es, e, h1, n, RTs.plain hp h2⟩
  | .ref n, v, hp, h => by cases hp
theorem RVs.plain : ∀ {p : List PV} {v : List V}, plainL p = true → RVs κ F ρ H p v → RVs κ F ρ' H p v
  | [], v, _, h => by simp only [RVs] at h ⊢; exact h
  | p :: ps, v, hp, h => by
    simp only [RVs] at h ⊢
    have hp := (Bool.and_eq_true ..).mp (show (Dn.plain p && plainL ps) = true from hp)
    obtain ⟨w, r, e, h1, h2⟩ := h
    exact ⟨w, r, e, RV.plain hp.1 h1, RVs.plain hp.2 h2⟩
theorem RKs.plain : ∀ {p : List (PV × PV)} {v : List (Key × V)}, plainD p = true → RKs κ F ρ H p v → RKs κ F ρ' H p v
  | [], v, _, h => by simp only [RKs] at h ⊢; exact h
  | (k, p) :: ps, v, hp, h => by
    simp only [RKs] at h ⊢
    have hp := (Bool.and_eq_true ..).mp (show ((Dn.plain k && Dn.plain p) && plainD ps) = true from hp)
    have hp1 := (Bool.and_eq_true ..).mp hp.1
    obtain ⟨kk, w, r, e, h0, h1, h2⟩ := h
    exact ⟨kk, w, r, e, h0, RV.plain hp1.2 h1, RKs.plain hp.2 h2⟩
theorem RTs.plain : ∀ {p : List (PV × PV)} {v : List (NestedKey × Addr × V)}, plainD p = true → RTs κ F ρ H p v → RTs κ F ρ' H p v
  | [], v, _, h => by simp only [RTs] at h ⊢; exact h
  | (k, p) :: ps, v, hp, h => by
    simp only [RTs] at h ⊢
    have hp := (Bool.and_eq_true ..).mp (show ((Dn.plain k && Dn.plain p) && plainD ps) = true from hp)
    have hp1 := (Bool.and_eq_true ..).mp hp.1
    obtain ⟨kk, a, w, r, e, h0, hk, h1, h2⟩ := h
    exact ⟨kk, a, w, r, e, h0, RV.plain hp1.1 hk, RV.plain hp1.2 h1, RTs.plain hp.2 h2⟩
end
/-- .. the addresses that may change narrowed -/
theorem narrow (h : ∀ a, H a ≠ none → ¬ F a → ¬ F' a) : Mono κ F [] H F' ρ' H := ⟨fun _ _ h => h, fun _ _ h _ => h, h, fun n a h => by simp at h⟩
mutual
theorem nk_plain : ∀ {p : PV} {k : NestedKey}, toNK p = some k → plain p = true
  | .int _, _, _ => rfl
  | .str _, _, _ => rfl
  | .tup xs, k, h => by
    simp only [toNK] at h
    obtain ⟨ks, e, _⟩ := Option.map_eq_some_iff.mp h
    exact nks_plain e
  | .non, _, h => by cases h
  | .bl _, _, h => by cases h
  | .lst _, _, h => by cases h
  | .scr _, _, h => by cases h
  | .dic _ _, _, h => by cases h
  | .ref _, _, h => by cases h
theorem nks_plain : ∀ {p : List PV} {k : List NestedKey}, toNKs p = some k → plainL p = true
  | [], _, _ => rfl
  | x :: xs, k, h => by
    simp only [toNKs] at h
    obtain ⟨a, e1, e2⟩ := Option.bind_eq_some_iff.mp h
    obtain ⟨b, e3, _⟩ := Option.map_eq_some_iff.mp e2
    show (plain x && plainL xs) = true
    rw [nk_plain e1, nks_plain e3]; rfl
end
theorem key_plain {p : PV} {k : Key} (h : toKey p = some k) : plain p = true := by
  cases p <;> first | rfl | cases h
/-- a value whose things of the store are frozen: the store is dropped -/
theorem freeze_rv (W : Wd κ B ρ st H) : ∀ (n : Nat) {p q : PV} {v : V}, freeze st n p = some q → RV κ (Fo B ρ) ρ H p v → RV κ B [] H q v := by
  have nb : ∀ a, H a ≠ none → ¬ Fo B ρ a → ¬ B a := fun a _ n z => n (.inl z)
  have pl : ∀ {p : PV} {v : V}, plain p = true → RV κ (Fo B ρ) ρ H p v → RV κ B [] H p v := fun hp h => (RV.plain (ρ' := []) hp h).mono (narrow nb)
  have ls : ∀ n, (∀ {p q : PV} {v : V}, freeze st n p = some q → RV κ (Fo B ρ) ρ H p v → RV κ B [] H q v) → ∀ (ps : List PV) {qs : List PV} {vs : List V}, ps.mapM (freeze st n) = some qs → RVs κ (Fo B ρ) ρ H ps vs → RVs κ B [] H qs vs := by
    intro n ih ps
    induction ps with
    | nil =>
      intro qs vs h r
      simp only [List.mapM_nil, Option.pure_def, Option.some.injEq] at h
      subst h
      simpa only [RVs] using r
    | cons p ps iu =>
      intro qs vs h r
      simp only [List.mapM_cons, Option.pure_def, Option.bind_eq_bind, Option.bind_eq_some_iff, Option.some.injEq] at h
      obtain ⟨a, e1, b, e2, rfl⟩ := h
      simp only [RVs] at r
      obtain ⟨w, vr, rfl, r1, r2⟩ := r
      exact RVs.cons (ih e1 r1) (iu e2 r2)
  intro n
  induction n with
  | zero =>
    intro p q v h r
    simp only [freeze] at h
    split at h
    · cases h; exact pl (by assumption) r
    · cases h
  | succ n ih =>
    intro p q v h r
    have ot : plain p = true → p = q → RV κ B [] H q v := fun a b => by subst b; exact pl a r
    cases p with
    | ref k =>
      simp only [RV] at r
      obtain ⟨a, rfl, h1⟩ := r
      have nB : ¬ B a := W.sep a (List.mem_of_getElem? h1)
      simp only [freeze] at h
      split at h
      · rename_i xs e
        obtain ⟨ys, e2, rfl⟩ := Option.map_eq_some_iff.mp h
        obtain ⟨vs, h2, h3⟩ := W.ob k _ a e h1
        simp only [RV]
        exact ⟨a, vs, rfl, h2, nB, ls n ih xs e2 h3⟩
      · rename_i t kvs e
        obtain ⟨ys, e2, rfl⟩ := Option.map_eq_some_iff.mp h
        have o := W.ob k _ a e h1
        cases t with
        | false =>
          obtain ⟨es, h2, h3⟩ := o
          simp only [RV]
          refine ⟨a, es, rfl, h2, nB, ?_⟩
          clear e h2 ot h
          induction kvs generalizing ys es with
          | nil =>
            simp only [List.mapM_nil, Option.pure_def, Option.some.injEq] at e2
            subst e2
            simpa only [RKs] using h3
          | cons kv kvs iu =>
            obtain ⟨kk, pp⟩ := kv
            simp only [List.mapM_cons, Option.pure_def, Option.bind_eq_bind, Option.bind_eq_some_iff, Option.some.injEq, Option.map_eq_some_iff] at e2
            obtain ⟨z, ⟨a1, e3, a2, e4, rfl⟩, b, e5, rfl⟩ := e2
            simp only [RKs] at h3
            obtain ⟨k', w, r', rfl, h4, h5, h6⟩ := h3
            rw [freeze_plain st n (key_plain h4)] at e3
            cases e3
            simp only [RKs]
            exact ⟨k', w, r', rfl, h4, ih e4 h5, iu b e5 r' h6⟩
        | true =>
          obtain ⟨es, h2, h3⟩ := o
          simp only [RV]
          refine ⟨a, es, rfl, h2, nB, ?_⟩
          clear e h2 ot h
          induction kvs generalizing ys es with
          | nil =>
            simp only [List.mapM_nil, Option.pure_def, Option.some.injEq] at e2
            subst e2
            simpa only [RTs] using h3
          | cons kv kvs iu =>
            obtain ⟨kk, pp⟩ := kv
            simp only [List.mapM_cons, Option.pure_def, Option.bind_eq_bind, Option.bind_eq_some_iff, Option.some.injEq, Option.map_eq_some_iff] at e2
            obtain ⟨z, ⟨a1, e3, a2, e4, rfl⟩, b, e5, rfl⟩ := e2
            simp only [RTs] at h3
            obtain ⟨k', a', w, r', rfl, h4, hk, h5, h6⟩ := h3
            have hp := nk_plain h4
            rw [freeze_plain st n hp] at e3
            cases e3
            simp only [RTs]
            exact ⟨k', a', w, r', rfl, h4, pl hp hk, ih e4 h5, iu b e5 r' h6⟩
      · cases h
    | tup xs =>
      simp only [freeze] at h
      split at h
      · cases h; exact pl (by assumption) r
      · obtain ⟨ys, e2, rfl⟩ := Option.map_eq_some_iff.mp h
        simp only [RV] at r ⊢
        obtain ⟨a, vs, rfl, h1, h2⟩ := r
        exact ⟨a, vs, rfl, h1, ls n ih xs e2 h2⟩
    | lst xs =>
      simp only [freeze] at h
      split at h
      · cases h; exact pl (by assumption) r
      · obtain ⟨ys, e2, rfl⟩ := Option.map_eq_some_iff.mp h
        simp only [RV] at r ⊢
        obtain ⟨a, vs, rfl, h1, n', h2⟩ := r
        exact ⟨a, vs, rfl, h1, fun z => n' (.inl z), ls n ih xs e2 h2⟩
    | _ => simp only [freeze] at h; (split at h <;> first | (cases h; done) | (cases h; exact pl (by assumption) r))
theorem rvs_narrow {ps : List PV} {vs : List V} (hp : plainL ps = true) (r : RVs κ (Fo B ρ) ρ H ps vs) : RVs κ (Fo (Fo B ρ) []) [] H ps vs := by
  refine (RVs.plain (ρ' := []) hp r).mono (narrow fun a _ n z => n ?_)
  rcases z with z | z
  · exact z
  · exact absurd z (by simp)
theorem start_env {N : List Str} {m : Nat} (hm : m = N.length) {pvs : List PV} {vs : List V} (r : RVs κ F ρ H pvs vs) : REnv κ F ρ H (start m pvs) (L2.start N vs) := by
  subst hm
  have hl := r.length
  refine ⟨by simp [start, L2.start, hl], fun i p e => ?_⟩
  unfold start at e
  unfold L2.start
  by_cases hi : i < pvs.length
  · rw [List.getElem?_append_left (by simpa using hi), List.getElem?_map] at e
    rw [List.getElem?_append_left (by rw [List.length_map, ← hl]; exact hi), List.getElem?_map]
    have e : Option.map some pvs[i]? = some (some p) := e
    cases q : pvs[i]? with
    | none => rw [q] at e; cases e
    | some x =>
      rw [q] at e
      cases e
      obtain ⟨y, ey, ry⟩ := r.get q
      exact ⟨y, by rw [ey]; rfl, ry⟩
  · rw [List.getElem?_append_right (by simpa using hi), List.getElem?_replicate] at e
    split at e <;> cases e
/-- a call of a def that changes nothing leaves the caller's things -/
theorem ext_pure {ρ1 : List Addr} (W : Wd κ B ρ st H) (e : Ext [] H ρ1 H') : Ext ρ H ρ H' := by
  have no : ∀ a, H a ≠ none → a ∉ ρ1 := fun a h => e.out (by simp) h
  exact ⟨⟨[], by simp, by simp⟩, e.dom, fun a o h _ => e.keep a o h (no a (by rw [h]; simp)), e.tup, e.frz⟩
theorem wd_pure {ρ1 : List Addr} (W : Wd κ B ρ st H) (e : Ext [] H ρ1 H') : Wd κ B ρ st H' := by
  refine W.ext_same (ext_pure W e) fun a ha => ?_
  cases q : H a with
  | none => exact absurd q (W.has ha)
  | some o => exact e.keep a o q (e.out (by simp) (by rw [q]; simp))
end
/-! ### the promise -/
section
variable {Γ : Pg} {P : Program} {w : World} {K : PySem.W.Frag} {mg : Str → Option Value} {base : Heap} {c fa : Nat → Addr} {n f : Nat} {d : FnD} {x qual : Str} {params : Arguments} {body : List Stmt} {scope : Scope} {dvs : List V} {kws : List (Str × V)} {fd : FuncData} {N ps : List Str}
theorem good_of {cdv : Value} {A : Around} {outer : List PySem.Env} {s : Shared} {H0 : Hp} {E : XK} {G : Fr} {a : Addr} (S : FnScope N ps scope) (IH : EnvOk Γ ⟨P, w, K, c⟩ mg base n fa) (ng : NoG (A.deeper (envOfC qual scope s.heap.objs.size a cdv))) (hr : Room (2 * n + 1) (A.deeper (envOfC qual scope s.heap.objs.size a cdv)))
    (hE : ∀ cls d H', EXK ⟨P, w, K, c⟩ G cls d H' → E cls d H') : Good Γ n c fa G N scope (cxOf (L2.CX P w) P w K mg base N qual scope a cdv A outer s H0 E) where
  hN := rfl
  hsc := rfl
  nd := S.nd
  calm := rfl
  room := hr
  ng := ng
  env := IH
  ps := passes_call (E := EXK ⟨P, w, K, c⟩ G) (takes_of (E := E) rfl rfl rfl rfl) fun cls d _ H' h => hE cls d H' h
  po := passes_of rfl
  kind := S.kind
theorem spI_ok (hd : Γ.tbl f = some d) (F : FunD K x qual params body scope dvs kws (fa f) fd) (S : FnScope N ps scope) (hN : d.size = N.length) (hp : d.np = ps.length) (hb : SSs Γ N scope body d.body) (IH : EnvOk Γ ⟨P, w, K, c⟩ mg base n fa) :
    FnG P w K mg base (L2.CX P w) (2 * (n + 1)) (fa f) fd ps (spI ⟨P, w, K, c⟩ Γ (n + 1) f) := by
  refine F.g (lv := 2 * n + 1) S (fun vs H Q E h => ?_) fun cdv A outer s H vs Q E ng hr h => ?_
  · obtain ⟨B, ρ, st, pvs, W, r, ⟨d', e, hl⟩, o⟩ := h
    rw [hd] at e
    cases e
    rw [← r.length, hl, hp]
  · obtain ⟨B, ρ, st, pvs, W, r, ⟨d', e, hl⟩, o⟩ := h
    rw [hd] at e
    cases e
    have o : OutF ⟨P, w, K, c⟩ B ρ H (match Γ.tbl f with | some d => runFn d (callN Γ.tbl n) pvs st | none => .bad) Q E := o
    rw [hd] at o
    have o : OutF ⟨P, w, K, c⟩ B ρ H (runFn d (callN Γ.tbl n) pvs st) Q E := o
    unfold runFn at o
    rw [if_pos (show pvs.length.beq d.np = true by rw [hl]; exact Nat.beq_refl _)] at o
    split at o
    · -- a store of its own
      split at o
      · rename_i hpl
        let G : Fr := ⟨Fo B ρ, [], H, fun e _ => ∀ H' cls dd, Ext ρ H ρ H' → Wd ⟨P, w, K, c⟩ B ρ st H' → RX ⟨P, w, K, c⟩ e cls dd H' → E cls dd H'⟩
        have W0 : Wd ⟨P, w, K, c⟩ (Fo B ρ) [] [] H := Wd.nil fun a ha => by
          rcases ha with z | z
          · exact W.dom a z
          · exact W.has z
        have hE : ∀ cls dd H', EXK ⟨P, w, K, c⟩ G cls dd H' → E cls dd H' := by
          rintro cls dd H' ⟨e, st', ρ', A', rx, gx⟩
          exact gx H' cls dd (ext_pure W A'.ext) (wd_pure W A'.ext) rx
        refine ⟨tS ⟨P, w, K, c⟩ G (callN Γ.tbl n) d.body, hb n c fa G _ (good_of S IH ng hr hE) (fun _ => rfl), [], [], start d.size pvs, ⟨W0, Ext.refl⟩, start_env hN (rvs_narrow hpl r), ?_⟩
        cases q : d.body (callN Γ.tbl n) (start d.size pvs) [] with
        | ok p st' =>
          rw [q] at o
          intro ρ1 H1 e1 A1
          have key : ∀ v u, retOf p.1 = some v → RV ⟨P, w, K, c⟩ (Fo G.B ρ1) ρ1 H1 v u → Q u H1 := fun v u e r1 => by
            have o : OutF ⟨P, w, K, c⟩ B ρ H (Res.of st ((retOf p.1).bind (freeze st' 4))) Q E := o
            rw [e] at o
            have o : OutF ⟨P, w, K, c⟩ B ρ H (Res.of st (freeze st' 4 v)) Q E := o
            cases fz : freeze st' 4 v with
            | none => rw [fz] at o; exact False.elim o
            | some v' =>
              rw [fz] at o
              have r2 := freeze_rv A1.wd 4 fz r1
              refine o ρ H1 u (ext_pure W A1.ext) (wd_pure W A1.ext) (r2.mono ⟨fun _ _ h => h, fun _ _ h _ => h, fun _ _ h => h, fun n a h => by simp at h⟩)
          obtain ⟨fl, σ1⟩ := p
          cases fl with
          | nx => exact fun σ' _ => key .non .non rfl (by simp only [RV])
          | ret v => exact fun u ru => key v u rfl ru
          | brk => exact (show False from o).elim
          | cnt => exact (show False from o).elim
        | exc e st' =>
          rw [q] at o
          intro H' cls dd e' W' rx
          exact o ρ H' cls dd e' W' rx
        | bad => rw [q] at o; exact o
      · exact o.elim
    · -- the caller's store
      let G : Fr := ⟨B, ρ, H, fun e st' => ∀ ρ' H' cls dd, Ext ρ H ρ' H' → Wd ⟨P, w, K, c⟩ B ρ' st' H' → RX ⟨P, w, K, c⟩ e cls dd H' → E cls dd H'⟩
      have hE : ∀ cls dd H', EXK ⟨P, w, K, c⟩ G cls dd H' → E cls dd H' := by
        rintro cls dd H' ⟨e, st', ρ', A', rx, gx⟩
        exact gx ρ' H' cls dd A'.ext A'.wd rx
      refine ⟨tS ⟨P, w, K, c⟩ G (callN Γ.tbl n) d.body, hb n c fa G _ (good_of S IH ng hr hE) (fun _ => rfl), ρ, st, start d.size pvs, ⟨W, Ext.refl⟩, start_env hN r, ?_⟩
      cases q : d.body (callN Γ.tbl n) (start d.size pvs) st with
      | ok p st' =>
        rw [q] at o
        intro ρ1 H1 e1 A1
        have o : OutF ⟨P, w, K, c⟩ B ρ H (Res.of st' (retOf p.1)) Q E := o
        obtain ⟨fl, σ1⟩ := p
        cases fl with
        | nx => exact fun σ' _ => o ρ1 H1 .non e1 A1.wd (by simp only [RV])
        | ret v => exact fun u ru => o ρ1 H1 u e1 A1.wd ru
        | brk => exact (show False from o).elim
        | cnt => exact (show False from o).elim
      | exc e st' =>
        rw [q] at o
        intro ρ' H' cls dd e' W' rx
        exact o ρ' H' cls dd e' W' rx
      | bad => rw [q] at o; exact o
/-- a def as the text has it, proved to be its combinator -/
structure DefOk (Γ : Pg) (K : PySem.W.Frag) (fa : Nat → Addr) (f : Nat) (d : FnD) : Prop where
  ex : ∃ (x qual : Str) (params : Arguments) (body : List Stmt) (scope : Scope) (dvs : List V) (kws : List (Str × V)) (fd : FuncData) (N ps : List Str), FunD K x qual params body scope dvs kws (fa f) fd ∧ FnScope N ps scope ∧ d.size = N.length ∧ d.np = ps.length ∧ SSs Γ N scope body d.body ∧
    ∀ j, j ≤ (Γ.dfl f).length → ∃ ds us, Binds K fd ps ds ∧ Vals us ds ∧ ∀ κ F ρ H, κ.K = K → RVs κ F ρ H ((Γ.dfl f).drop j) us
theorem envOk_all (hf : ∀ f d, Γ.tbl f = some d → DefOk Γ K fa f d) (gn : ∀ f x, Γ.gname f = some x → mg x = some (.ref (fa f)))
    (cn : ∀ C x, Γ.cname C = some x → mg x = some (.ref (c C)) ∧ Mk K (c C) (fa (Γ.cinit C)) ∧ Cls K (c C)) (fl : ∀ C x f, Γ.cname C = some x → f ∈ Γ.flds C → NoAttr K (c C) f)
    (me : ∀ C x m f, Γ.cname C = some x → (m, f) ∈ Γ.meths C → Meth K (c C) m (fa f)) (ct : ∀ x v, Γ.consts x = some v → ∃ u y, mg x = some u ∧ RelV y u ∧ ∀ κ F ρ H, κ.K = K → RV κ F ρ H v y) (bl : ∀ x, x ∈ Γ.free → mg x = none) :
    ∀ n, EnvOk Γ ⟨P, w, K, c⟩ mg base n fa := by
  have mk : ∀ n, (∀ f d, Γ.tbl f = some d → ∃ fd ps, FnG P w K mg base (L2.CX P w) (2 * n) (fa f) fd ps (spI ⟨P, w, K, c⟩ Γ n f) ∧ ps.length = d.np ∧ PySem.W.keepIn K (.ref (fa f)) = true ∧
    ∀ j, j ≤ (Γ.dfl f).length → ∃ ds dvs, Binds K fd ps ds ∧ Vals dvs ds ∧ ∀ F ρ H, RVs ⟨P, w, K, c⟩ F ρ H ((Γ.dfl f).drop j) dvs) → EnvOk Γ ⟨P, w, K, c⟩ mg base n fa :=
    fun n h => ⟨h, gn, cn, fl, me, fun x v e => let ⟨u, y, h1, h2, h3⟩ := ct x v e; ⟨u, y, h1, h2, fun F ρ H => h3 _ F ρ H rfl⟩, bl⟩
  intro n
  induction n with
  | zero =>
    refine mk 0 fun f d hd => ?_
    obtain ⟨x, qual, params, body, scope, dvs, kws, fd, N, ps, F, S, h1, h2, h3, h4⟩ := (hf f d hd).ex
    refine ⟨fd, ps, ⟨fun vs H Q E ⟨_, _, _, _, _, _, _, o⟩ => (show False from o).elim, fun A outer s H args us vs Q E _ _ _ _ _ ⟨_, _, _, _, _, _, _, o⟩ => (show False from o).elim⟩, h2.symm, F.kp, fun j hj => ?_⟩
    obtain ⟨ds, us, a, b, k⟩ := h4 j hj
    exact ⟨ds, us, a, b, fun F ρ H => k _ F ρ H rfl⟩
  | succ n ih =>
    refine mk (n + 1) fun f d hd => ?_
    obtain ⟨x, qual, params, body, scope, dvs, kws, fd, N, ps, F, S, h1, h2, h3, h4⟩ := (hf f d hd).ex
    refine ⟨fd, ps, spI_ok hd F S h1 h2 h3 ih, h2.symm, F.kp, fun j hj => ?_⟩
    obtain ⟨ds, us, a, b, k⟩ := h4 j hj
    exact ⟨ds, us, a, b, fun F ρ H => k _ F ρ H rfl⟩
end
end Dn

/-! lists put together, laid into the store. -/
namespace Dn
open PySem L2
namespace O
def addL : PV → PV → Option PV
  | .lst xs, .lst ys => if xs.length + ys.length ≤ 1000000 then some (.lst (xs ++ ys)) else none
  | _, _ => none
end O
section
variable {Γ : Pg} {n : Nat} {c fa : Nat → Addr} {G : Fr} {N : List Str} {sc : Scope} {X : Cx} {κ : Cn} {cs : CS}
variable {a b e d : Expr} {da db dd : DE} {pos p : Pos} {es : List Expr} {ds : DEs}
theorem addL_inv {p q r : PV} (h : O.addL p q = some r) : ∃ xs ys, p = .lst xs ∧ q = .lst ys ∧ xs.length + ys.length ≤ 1000000 ∧ r = .lst (xs ++ ys) := by
  unfold O.addL at h
  split at h
  · split at h
    · cases h
      exact ⟨_, _, rfl, rfl, by assumption, rfl⟩
    · cases h
  · cases h
theorem lo_op2 {f : PV → PV → Option PV} (h : ∀ p q v, f p q = some v → ∃ ps, v = .lst ps) : LstOnly (D.op2 f da db) := fun cs σ st v st' q => lstOnly_bind q fun x st1 _ q => lstOnly_bind q fun y st2 _ q => by
  cases e : f (deref st2 x) (deref st2 y) with
  | none => rw [e] at q; cases q
  | some w => rw [e] at q; cases q; exact h _ _ _ e
theorem lo_addL : LstOnly (D.op2 O.addL da db) := lo_op2 fun p q v h => by
  obtain ⟨xs, ys, _, _, _, rfl⟩ := addL_inv h
  exact ⟨_, rfl⟩
theorem SEF.addL (ha : SE Γ N sc a da) (hb : SE Γ N sc b db) : SEF Γ N sc (.BinOp a .Add b pos) (D.op2 O.addL da db) := fun n c fa G X g => by
  refine (pe_op op_cat (ha n c fa G X g) (hb n c fa G X g)).imp ?_
  rintro σ H Q ⟨ρ, st, σp, A, R, o⟩
  refine tE_bind A R o fun v st1 ρ1 H1 u e1 A1 R1 ru o1 => ?_
  refine tE_bind A1 R1 o1 fun w st2 ρ2 H2 z e2 A2 R2 rz o2 => ?_
  obtain ⟨res, ef, k⟩ := o2.of
  obtain ⟨xs, ys, ex, ey, hl, rfl⟩ := addL_inv ef
  have r1 := RR.of A2.wd (ru.mono e2.mono)
  have r2 := RR.of A2.wd rz
  rw [ex] at r1
  rw [ey] at r2
  obtain ⟨a', us, rfl, h1, r3⟩ := rr_lst r1
  obtain ⟨b', ws, rfl, h2, r4⟩ := rr_lst r2
  obtain ⟨ps, e', k2⟩ := k ρ2 H2 Ext.refl A2
  cases e'
  exact ⟨a', b', us, ws, rfl, rfl, h1, h2, by rw [← r3.length, ← r4.length]; exact big_of hl, fun p hp => k2 _ p (r3.append r4) hp⟩
end
end Dn

/-! for a, b in zip(list, tuple). -/
namespace Dn
open PySem L2
namespace D
def zipM (a b : DE) : DI := fun c σ st => (a c σ st).bind fun x st => (b c σ st).bind fun y st => match x, y with
  | .lst xs, .tup ys => .ok (zipP xs ys, none) st
  | .tup xs, .lst ys => .ok (zipP xs ys, none) st
  | _, _ => .bad
end D
section
variable {Γ : Pg} {n : Nat} {c fa : Nat → Addr} {G : Fr} {N : List Str} {sc : Scope} {X : Cx} {κ : Cn} {cs : CS}
variable {a b e d : Expr} {da db dd : DE} {pos p : Pos} {es : List Expr} {ds : DEs}
theorem SI.zipM {elts : List Expr} {kk : Nat} {tpos : Pos} (hx : okB Γ sc ("zip" : Str) = true) (ha : SE Γ N sc a da) (hb : SE Γ N sc b db) (hst : ∀ env, starEach [a, b] env = [(false, eval a env), (false, eval b env)] := by intro _; rfl) (hst2 : ∀ env, starEach [b] env = [(false, eval b env)] := by intro _; rfl) :
    SI Γ N sc (.Tuple elts kk tpos) (.Call (.Name ("zip" : Str) p) [a, b] [] pos) (D.zipM da db) := fun n c fa G X g => by
  obtain ⟨g1, g2, g3, g4⟩ := okB_gl g hx
  have e1 : starEach [a, b] X.env = (false, eval a X.env) :: starEach [b] X.env := by rw [hst, hst2]
  refine PI_imp (ZM.pi_zipM g1 g2 (pa_cons (ha n c fa G X g) (pa_cons (hb n c fa G X g) pa_nil (hst2 _)) e1) e1 (by rw [hst2]; rfl)) ?_
  rintro σ H R ⟨ρ, st, σp, A, Rn, o⟩
  refine tE_bind A Rn o fun v st1 ρ1 H1 u e1 A1 R1 ru o1 => ?_
  refine tE_bind A1 R1 o1 fun w st2 ρ2 H2 z e2 A2 R2 rz o2 => ?_
  have ru := ru.mono (e2.mono (κ := cnOf X c) (B := G.B))
  split at o2
  · rename_i xs ys
    simp only [RV] at ru rz
    obtain ⟨a', vs, rfl, h1, n1, r1⟩ := ru
    obtain ⟨b', ws, rfl, h2, r2⟩ := rz
    have k1 : ∀ ρ H, Ext ρ2 H2 ρ H → SqL X.K H a' vs := fun ρ H e => SqL.of (e.keep _ _ h1 (e.out (fun z => n1 (.inr z)) (by rw [h1]; simp)))
    have k2 : ∀ ρ H, Ext ρ2 H2 ρ H → SqT X.K H b' ws := fun ρ H e => sqT_mono (κ := cnOf X c) e.tup e.frz h2
    refine ⟨a', b', vs, ws, rfl, .inl ⟨SqL.of h1, h2, o2.ret A2 _ (yld_zip r1 r2 (fun i ρ H x y e ex ey => ?_) (fun i ρ H v H' x y e ex ey hv => ?_) fun i ρ H e h => ?_)⟩⟩
    · exact ⟨vs, ws, x, y, k1 ρ H e, k2 ρ H e, ex, ey⟩
    · obtain ⟨T, x', y', e1, e2, e3, e4, e5⟩ := hv
      have z1 := e4 vs (k1 ρ H e)
      have z2 := e5 ws (k2 ρ H e)
      rw [ex] at z1; rw [ey] at z2
      cases z1; cases z2
      exact ⟨T, e1, e2, e3⟩
    · exact ⟨vs, ws, k1 ρ H e, k2 ρ H e, h⟩
  · rename_i xs ys
    simp only [RV] at ru rz
    obtain ⟨a', vs, rfl, h1, r1⟩ := ru
    obtain ⟨b', ws, rfl, h2, n2, r2⟩ := rz
    have k1 : ∀ ρ H, Ext ρ2 H2 ρ H → SqT X.K H a' vs := fun ρ H e => sqT_mono (κ := cnOf X c) e.tup e.frz h1
    have k2 : ∀ ρ H, Ext ρ2 H2 ρ H → SqL X.K H b' ws := fun ρ H e => SqL.of (e.keep _ _ h2 (e.out (fun z => n2 (.inr z)) (by rw [h2]; simp)))
    refine ⟨a', b', vs, ws, rfl, .inr ⟨h1, SqL.of h2, o2.ret A2 _ (yld_zip r1 r2 (fun i ρ H x y e ex ey => ?_) (fun i ρ H v H' x y e ex ey hv => ?_) fun i ρ H e h => ?_)⟩⟩
    · exact ⟨vs, ws, x, y, k1 ρ H e, k2 ρ H e, ex, ey⟩
    · obtain ⟨T, x', y', e1, e2, e3, e4, e5⟩ := hv
      have z1 := e4 vs (k1 ρ H e)
      have z2 := e5 ws (k2 ρ H e)
      rw [ex] at z1; rw [ey] at z2
      cases z1; cases z2
      exact ⟨T, e1, e2, e3⟩
    · exact ⟨vs, ws, k1 ρ H e, k2 ρ H e, h⟩
  · exact o2.elim
end
end Dn

namespace Dn
def c_TiltError : Nat := 0
def c_NoArm : Nat := 1
def c_NoPath : Nat := 2
def c_NoStanding : Nat := 3
def c_Seen : Nat := 4
def i_is_whole : Nat := 0
def i_is_within : Nat := 1
def i_is_long : Nat := 2
def i_rises : Nat := 3
def i_falls_not : Nat := 4
def i_is_arm_by : Nat := 5
def i_is_weight : Nat := 6
def i_arms_in : Nat := 7
def i_is_arm : Nat := 8
def i_need_arm : Nat := 9
def i_paths_by : Nat := 10
def i_is_path : Nat := 11
def i_need_path : Nat := 12
def i_arm_by : Nat := 13
def i_is_bead : Nat := 14
def i_are_beads : Nat := 15
def i_is_standing_by : Nat := 16
def i_need_standing : Nat := 17
def i_Seenu__initu_ : Nat := 18
def i_Seen_look : Nat := 19
def i_word_by : Nat := 20
def i_words_by : Nat := 21
def i_need_place_of : Nat := 22
def i_load : Nat := 23
def i_tilt : Nat := 24
def i_word : Nat := 25
def i__law_cell_at : Nat := 26
def i__law_pen : Nat := 27
def i__law_draw : Nat := 28
def i__law_same : Nat := 29
def i__law_lone : Nat := 30
def i__law_hung : Nat := 31
def i__law_arm : Nat := 32
def i__law_paths : Nat := 33
def i__law_at : Nat := 34
def i__law_beads : Nat := 35
def i__law_standing : Nat := 36
def i__law_load : Nat := 37
def i__law_tilt : Nat := 38
def i__law_word : Nat := 39
def i__law_right : Nat := 40
def i__law_slacks_right : Nat := 41
def i_law : Nat := 42
/-- is_whole(thing) pure -/
def b_is_whole : DS :=
  (D.ret (D.and (D.op1 O.isInt (D.var 0)) (D.not (D.op1 O.isBool (D.var 0)))))
/-- is_within(thing, least, most) pure -/
def b_is_within : DS :=
  (D.ret (D.and (D.call i_is_whole (D.cons (D.var 0) D.nil)) (D.chain O.le O.le (D.var 1) (D.var 0) (D.var 2))))
/-- is_long(thing, least, most) pure -/
def b_is_long : DS :=
  (D.ret (D.and (D.op1 O.isTup (D.var 0)) (D.chain O.le O.le (D.var 1) (D.op1 O.len (D.var 0)) (D.var 2))))
/-- rises(row, one, later) pure -/
def b_rises : DS :=
  (D.ret (D.op1 O.all (D.lc [1, 2] (D.zip (D.var 0) (D.slice (D.var 0) (some (D.c (.int 1))) none)) (D.tt [(D.tn 1), (D.tn 2)]) [] (D.op2 O.«lt» (D.var 1) (D.var 2)))))
/-- falls_not(row, one, later) pure -/
def b_falls_not : DS :=
  (D.ret (D.op1 O.all (D.lc [1, 2] (D.zip (D.var 0) (D.slice (D.var 0) (some (D.c (.int 1))) none)) (D.tt [(D.tn 1), (D.tn 2)]) [] (D.op2 O.«le» (D.var 1) (D.var 2)))))
/-- is_arm_by(thing, deep, left, right, slack, holds, hung, one, place, what) pure -/
def b_is_arm_by : DS :=
  (D.seq (D.cond (D.or (D.op2 O.«eq» (D.var 1) (D.c (.int 0))) (D.not (D.call i_is_long (D.cons (D.var 0) (D.cons (D.c (.int 5)) (D.cons (D.c (.int 5)) D.nil)))))) (D.ret (D.c (.bl false))) D.pass)
  (D.seq (D.asg (D.tt [(D.tn 2), (D.tn 3), (D.tn 4), (D.tn 5), (D.tn 6)]) (D.var 0))
  (D.seq (D.cond (D.or (D.not (D.call i_is_within (D.cons (D.var 2) (D.cons (D.c (.int 1)) (D.cons (D.c (.int 3)) D.nil))))) (D.not (D.call i_is_within (D.cons (D.var 3) (D.cons (D.c (.int 1)) (D.cons (D.c (.int 3)) D.nil)))))) (D.ret (D.c (.bl false))) D.pass)
  (D.seq (D.cond (D.or (D.not (D.call i_is_within (D.cons (D.var 4) (D.cons (D.c (.int 0)) (D.cons (D.c (.int 9)) D.nil))))) (D.or (D.not (D.call i_is_within (D.cons (D.var 5) (D.cons (D.c (.int 1)) (D.cons (D.c (.int 3)) D.nil))))) (D.not (D.op1 O.isTup (D.var 6))))) (D.ret (D.c (.bl false))) D.pass)
  (D.seq (D.cond (D.not (D.op1 O.all (D.lc [7] (D.walk (D.var 6)) (D.tn 7) [] (D.and (D.call i_is_long (D.cons (D.var 7) (D.cons (D.c (.int 2)) (D.cons (D.c (.int 2)) D.nil)))) (D.call i_is_within (D.cons (D.op2 O.item (D.var 7) (D.c (.int 0))) (D.cons (D.op2 O.sub (D.c (.int 0)) (D.var 2)) (D.cons (D.var 3) D.nil)))))))) (D.ret (D.c (.bl false))) D.pass)
  (D.seq (D.cond (D.not (D.call i_rises (D.cons (D.lc [8, 9] (D.walk (D.var 6)) (D.tt [(D.tn 8), (D.tn 9)]) [] (D.var 8)) D.nil))) (D.ret (D.c (.bl false))) D.pass)
  (D.ret (D.op1 O.all (D.lc [8, 9] (D.walk (D.var 6)) (D.tt [(D.tn 8), (D.tn 9)]) [] (D.or (D.call i_is_weight (D.cons (D.var 9) D.nil)) (D.call i_is_arm_by (D.cons (D.var 9) (D.cons (D.op2 O.sub (D.var 1) (D.c (.int 1))) D.nil)))))))))))))
/-- is_weight(thing) pure -/
def b_is_weight : DS :=
  (D.ret (D.call i_is_within (D.cons (D.var 0) (D.cons (D.c (.int 1)) (D.cons (D.c (.int 9)) D.nil)))))
/-- arms_in(arm, place, what) pure -/
def b_arms_in : DS :=
  (D.ret (D.op2 O.add (D.c (.int 1)) (D.op1 O.sum (D.lc [1, 2] (D.walk (D.op2 O.item (D.var 0) (D.c (.int 4)))) (D.tt [(D.tn 1), (D.tn 2)]) [(D.op1 O.isTup (D.var 2))] (D.call i_arms_in (D.cons (D.var 2) D.nil))))))
/-- is_arm(thing) pure -/
def b_is_arm : DS :=
  (D.ret (D.and (D.call i_is_arm_by (D.cons (D.var 0) (D.cons (D.c (.int 3)) D.nil))) (D.op2 O.«le» (D.call i_arms_in (D.cons (D.var 0) D.nil)) (D.c (.int 4)))))
/-- need_arm(thing) pure -/
def b_need_arm : DS :=
  (D.cond (D.not (D.call i_is_arm (D.cons (D.var 0) D.nil))) D.stuck D.pass)
/-- paths_by(arm, found, place, what, path) pure -/
def b_paths_by : DS :=
  (D.seq (D.asg (D.tn 1) (D.fresh (D.lst (D.cons (D.tup D.nil) D.nil))))
  (D.seq (D.for (D.tt [(D.tn 2), (D.tn 3)]) (D.walk (D.op2 O.item (D.var 0) (D.c (.int 4)))) (D.cond (D.op1 O.isTup (D.var 3)) (D.expr (D.extend (D.var 1) (D.lc [4] (D.walk (D.call i_paths_by (D.cons (D.var 3) D.nil))) (D.tn 4) [] (D.op2 O.add (D.tup (D.cons (D.var 2) D.nil)) (D.var 4))))) D.pass))
  (D.ret (D.op1 O.tuple (D.var 1)))))
/-- is_path(arm, thing, one) pure -/
def b_is_path : DS :=
  (D.ret (D.and (D.op1 O.isTup (D.var 1)) (D.and (D.op1 O.all (D.lc [2] (D.walk (D.var 1)) (D.tn 2) [] (D.call i_is_whole (D.cons (D.var 2) D.nil)))) (D.op2 O.«in» (D.var 1) (D.call i_paths_by (D.cons (D.var 0) D.nil))))))
/-- need_path(arm, thing) pure -/
def b_need_path : DS :=
  (D.seq (D.expr (D.call i_need_arm (D.cons (D.var 0) D.nil)))
  (D.cond (D.not (D.call i_is_path (D.cons (D.var 0) (D.cons (D.var 1) D.nil)))) D.stuck D.pass))
/-- arm_by(arm, path, here, step) pure -/
def b_arm_by : DS :=
  (D.seq (D.asg (D.tn 2) (D.var 0))
  (D.seq (D.for (D.tn 3) (D.walk (D.var 1)) (D.asg (D.tn 2) (D.op2 O.item (D.op1 (O.dictOf false) (D.op1 O.list (D.op2 O.item (D.var 2) (D.c (.int 4))))) (D.var 3))))
  (D.ret (D.var 2))))
/-- is_bead(arm, thing) pure -/
def b_is_bead : DS :=
  (D.ret (D.and (D.call i_is_long (D.cons (D.var 1) (D.cons (D.c (.int 2)) (D.cons (D.c (.int 2)) D.nil)))) (D.and (D.call i_is_within (D.cons (D.op2 O.item (D.var 1) (D.c (.int 0))) (D.cons (D.op2 O.sub (D.c (.int 0)) (D.op2 O.item (D.var 0) (D.c (.int 0)))) (D.cons (D.op2 O.item (D.var 0) (D.c (.int 1))) D.nil)))) (D.call i_is_within (D.cons (D.op2 O.item (D.var 1) (D.c (.int 1))) (D.cons (D.c (.int 1)) (D.cons (D.c (.int 3)) D.nil)))))))
/-- are_beads(arm, thing, one) pure -/
def b_are_beads : DS :=
  (D.ret (D.and (D.call i_is_long (D.cons (D.var 1) (D.cons (D.c (.int 0)) (D.cons (D.op2 O.item (D.var 0) (D.c (.int 3))) D.nil)))) (D.and (D.op1 O.all (D.lc [2] (D.walk (D.var 1)) (D.tn 2) [] (D.call i_is_bead (D.cons (D.var 0) (D.cons (D.var 2) D.nil))))) (D.call i_falls_not (D.cons (D.var 1) D.nil)))))
/-- is_standing_by(arm, thing, own, path, one) pure -/
def b_is_standing_by : DS :=
  (D.seq (D.asg (D.tn 2) (D.call i_paths_by (D.cons (D.var 0) D.nil)))
  (D.seq (D.cond (D.not (D.call i_is_long (D.cons (D.var 1) (D.cons (D.op1 O.len (D.var 2)) (D.cons (D.op1 O.len (D.var 2)) D.nil))))) (D.ret (D.c (.bl false))) D.pass)
  (D.ret (D.op1 O.all (D.lc [3, 4] (D.zip (D.var 2) (D.var 1)) (D.tt [(D.tn 3), (D.tn 4)]) [] (D.call i_are_beads (D.cons (D.call i_arm_by (D.cons (D.var 0) (D.cons (D.var 3) D.nil))) (D.cons (D.var 4) D.nil))))))))
/-- need_standing(arm, thing) pure -/
def b_need_standing : DS :=
  (D.seq (D.expr (D.call i_need_arm (D.cons (D.var 0) D.nil)))
  (D.cond (D.not (D.call i_is_standing_by (D.cons (D.var 0) (D.cons (D.var 1) D.nil)))) D.stuck D.pass))
/-- Seen.__init__(self, arm, standing) imp -/
def b_Seenu__initu_ : DS :=
  (D.seq (D.asg (D.tt [(D.tattr c_Seen (D.var 0) (⟨#[108, 111, 97, 100, 115]⟩ : PySem.Str)), (D.tattr c_Seen (D.var 0) (⟨#[116, 105, 108, 116, 115]⟩ : PySem.Str))]) (D.tup (D.cons (D.fresh (D.dict true [])) (D.cons (D.fresh (D.dict true [])) D.nil))))
  (D.seq (D.asg (D.tattr c_Seen (D.var 0) (⟨#[98, 101, 97, 100, 115]⟩ : PySem.Str)) (D.op1 (O.dictOf true) (D.lzip (D.call i_paths_by (D.cons (D.var 1) D.nil)) (D.var 2))))
  (D.expr (D.meth c_Seen i_Seen_look (⟨#[108, 111, 111, 107]⟩ : PySem.Str) (D.var 0) (D.cons (D.var 1) (D.cons (D.tup D.nil) D.nil))))))
/-- Seen.look(self, arm, path, some, place, what, weight) imp -/
def b_Seen_look : DS :=
  (D.seq (D.asg (D.tn 3) (D.fresh (D.op1 O.list (D.op2 O.item (D.attr c_Seen (D.var 0) (⟨#[98, 101, 97, 100, 115]⟩ : PySem.Str)) (D.var 2)))))
  (D.seq (D.for (D.tt [(D.tn 4), (D.tn 5)]) (D.walk (D.op2 O.item (D.var 1) (D.c (.int 4)))) (D.expr (D.append (D.var 3) (D.tup (D.cons (D.var 4) (D.cons (D.ite (D.op1 O.isTup (D.var 5)) (D.meth c_Seen i_Seen_look (⟨#[108, 111, 111, 107]⟩ : PySem.Str) (D.var 0) (D.cons (D.var 5) (D.cons (D.op2 O.add (D.var 2) (D.tup (D.cons (D.var 4) D.nil))) D.nil))) (D.var 5)) D.nil))))))
  (D.seq (D.asg (D.tsub (D.attr c_Seen (D.var 0) (⟨#[108, 111, 97, 100, 115]⟩ : PySem.Str)) (D.var 2)) (D.op1 O.sum (D.lc [4, 6] (D.walk (D.var 3)) (D.tt [(D.tn 4), (D.tn 6)]) [] (D.var 6))))
  (D.seq (D.asg (D.tsub (D.attr c_Seen (D.var 0) (⟨#[116, 105, 108, 116, 115]⟩ : PySem.Str)) (D.var 2)) (D.op1 O.sum (D.lc [4, 6] (D.walk (D.var 3)) (D.tt [(D.tn 4), (D.tn 6)]) [] (D.op2 O.mulx (D.var 4) (D.var 6)))))
  (D.ret (D.op2 O.item (D.attr c_Seen (D.var 0) (⟨#[108, 111, 97, 100, 115]⟩ : PySem.Str)) (D.var 2)))))))
/-- word_by(arm, tilt_now) pure -/
def b_word_by : DS :=
  (D.seq (D.cond (D.op2 O.«lt» (D.var 1) (D.op2 O.sub (D.c (.int 0)) (D.op2 O.item (D.var 0) (D.c (.int 2))))) (D.ret (D.c (.str (⟨#[108, 101, 102, 116]⟩ : PySem.Str)))) D.pass)
  (D.ret (D.ite (D.op2 O.«gt» (D.var 1) (D.op2 O.item (D.var 0) (D.c (.int 2)))) (D.c (.str (⟨#[114, 105, 103, 104, 116]⟩ : PySem.Str))) (D.c (.str (⟨#[108, 101, 118, 101, 108]⟩ : PySem.Str))))))
/-- words_by(arm, standing, seen, path) pure -/
def b_words_by : DS :=
  (D.seq (D.asg (D.tn 2) (D.new c_Seen i_Seenu__initu_ (D.cons (D.var 0) (D.cons (D.var 1) D.nil))))
  (D.ret (D.dc true [3] (D.walk (D.call i_paths_by (D.cons (D.var 0) D.nil))) (D.tn 3) (D.var 3) (D.call i_word_by (D.cons (D.call i_arm_by (D.cons (D.var 0) (D.cons (D.var 3) D.nil))) (D.cons (D.op2 O.item (D.attr c_Seen (D.var 2) (⟨#[116, 105, 108, 116, 115]⟩ : PySem.Str)) (D.var 3)) D.nil))))))
/-- need_place_of(arm, standing, path) pure -/
def b_need_place_of : DS :=
  (D.seq (D.expr (D.call i_need_standing (D.cons (D.var 0) (D.cons (D.var 1) D.nil))))
  (D.expr (D.call i_need_path (D.cons (D.var 0) (D.cons (D.var 2) D.nil)))))
/-- load(arm, standing, path) pure -/
def b_load : DS :=
  (D.seq (D.expr (D.call i_need_place_of (D.cons (D.var 0) (D.cons (D.var 1) (D.cons (D.var 2) D.nil)))))
  (D.ret (D.op2 O.item (D.attr c_Seen (D.new c_Seen i_Seenu__initu_ (D.cons (D.var 0) (D.cons (D.var 1) D.nil))) (⟨#[108, 111, 97, 100, 115]⟩ : PySem.Str)) (D.var 2))))
/-- tilt(arm, standing, path) pure -/
def b_tilt : DS :=
  (D.seq (D.expr (D.call i_need_place_of (D.cons (D.var 0) (D.cons (D.var 1) (D.cons (D.var 2) D.nil)))))
  (D.ret (D.op2 O.item (D.attr c_Seen (D.new c_Seen i_Seenu__initu_ (D.cons (D.var 0) (D.cons (D.var 1) D.nil))) (⟨#[116, 105, 108, 116, 115]⟩ : PySem.Str)) (D.var 2))))
/-- word(arm, standing, path) pure -/
def b_word : DS :=
  (D.seq (D.expr (D.call i_need_place_of (D.cons (D.var 0) (D.cons (D.var 1) (D.cons (D.var 2) D.nil)))))
  (D.ret (D.op2 O.item (D.call i_words_by (D.cons (D.var 0) (D.cons (D.var 1) D.nil))) (D.var 2))))
/-- _law_cell_at(_law_script, _law_k) pure -/
def b__law_cell_at : DS :=
  (D.seq (D.cond (D.op2 O.«lt» (D.var 1) (D.op1 O.len (D.var 0))) (D.ret (D.op2 O.item (D.var 0) (D.var 1))) D.pass)
  (D.ret (D.c (.int 0))))
/-- _law_pen(_law_cell) imp -/
def b__law_pen : DS :=
  (D.ret (D.fresh (D.lst (D.cons (D.op2 O.max2 (D.c (.int 0)) (D.op2 O.sub (D.var 0) (D.op2 O.pow (D.c (.int 10)) (D.c (.int 18))))) (D.cons (D.op2 O.add (D.op2 O.mod (D.var 0) (D.c (.int 2147483629))) (D.c (.int 1))) (D.cons (D.c (.int 0)) D.nil))))))
/-- _law_draw(_law_pen_here, _law_many, _law_mixed, _law_found) imp -/
def b__law_draw : DS :=
  (D.seq (D.cond (D.op2 O.«gt» (D.op2 O.item (D.var 0) (D.c (.int 0))) (D.c (.int 0))) (D.seq (D.asg (D.tn 3) (D.op2 O.mod (D.op2 O.item (D.var 0) (D.c (.int 0))) (D.var 1)))
  (D.seq (D.asg (D.tsub (D.var 0) (D.c (.int 0))) (D.op2 O.fdiv (D.op2 O.item (D.var 0) (D.c (.int 0))) (D.var 1)))
  (D.ret (D.var 3)))) D.pass)
  (D.seq (D.asg (D.tsub (D.var 0) (D.c (.int 2))) (D.op2 O.add (D.op2 O.item (D.var 0) (D.c (.int 2))) (D.c (.int 1))))
  (D.seq (D.asg (D.tsub (D.var 0) (D.c (.int 1))) (D.op2 O.mod (D.op2 O.add (D.op2 O.add (D.op2 O.mulx (D.op2 O.item (D.var 0) (D.c (.int 1))) (D.c (.int 48271))) (D.op2 O.mulx (D.c (.int 1009)) (D.op2 O.item (D.var 0) (D.c (.int 2))))) (D.c (.int 7))) (D.c (.int 2147483647))))
  (D.seq (D.asg (D.tn 2) (D.op2 O.mod (D.op2 O.add (D.op2 O.add (D.op2 O.mulx (D.op2 O.item (D.var 0) (D.c (.int 1))) (D.op2 O.item (D.var 0) (D.c (.int 1)))) (D.op2 O.mulx (D.c (.int 69621)) (D.op2 O.item (D.var 0) (D.c (.int 1))))) (D.c (.int 11))) (D.c (.int 2147483629))))
  (D.seq (D.asg (D.tn 2) (D.op2 O.mod (D.op2 O.add (D.op2 O.mulx (D.var 2) (D.var 2)) (D.op2 O.mulx (D.c (.int 40014)) (D.var 2))) (D.c (.int 2147483587))))
  (D.ret (D.op2 O.mod (D.op2 O.fdiv (D.var 2) (D.c (.int 16))) (D.var 1))))))))
/-- _law_same(_law_found, _law_due) pure -/
def b__law_same : DS :=
  (D.ret (D.op2 O.«eq» (D.op1 O.repr (D.var 0)) (D.op1 O.repr (D.var 1))))
/-- _law_lone(_law_pen_here, _law_most, _law_held, _law_slack) imp -/
def b__law_lone : DS :=
  (D.seq (D.asg (D.tn 3) (D.op2 O.item (D.lst (D.cons (D.c (.int 0)) (D.cons (D.c (.int 0)) (D.cons (D.c (.int 1)) (D.cons (D.c (.int 2)) (D.cons (D.c (.int 5)) (D.cons (D.c (.int 9)) D.nil))))))) (D.call i__law_draw (D.cons (D.var 0) (D.cons (D.c (.int 6)) D.nil)))))
  (D.ret (D.tup (D.cons (D.op2 O.add (D.c (.int 1)) (D.call i__law_draw (D.cons (D.var 0) (D.cons (D.var 1) D.nil)))) (D.cons (D.op2 O.add (D.c (.int 1)) (D.call i__law_draw (D.cons (D.var 0) (D.cons (D.var 1) D.nil)))) (D.cons (D.var 3) (D.cons (D.op2 O.add (D.c (.int 1)) (D.call i__law_draw (D.cons (D.var 0) (D.cons (D.var 2) D.nil)))) (D.cons (D.tup D.nil) D.nil))))))))
/-- _law_hung(_law_pen_here, _law_arm_here, _law_things, _law_spots, _law_rows, _law_thing, _law_left, _law_right_here, _law_place) imp -/
def b__law_hung : DS :=
  (D.seq (D.asg (D.tt [(D.tn 6), (D.tn 7)]) (D.slice (D.var 1) none (some (D.c (.int 2)))))
  (D.seq (D.asg (D.tn 3) (D.fresh (D.op2 O.addL (D.lst (D.cons (D.op2 O.sub (D.c (.int 0)) (D.var 6)) (D.cons (D.var 7) D.nil))) (D.lc [8] (D.range2 (D.op2 O.sub (D.c (.int 1)) (D.var 6)) (D.var 7)) (D.tn 8) [] (D.var 8)))))
  (D.seq (D.asg (D.tn 4) (D.fresh (D.dict false [])))
  (D.seq (D.for (D.tn 5) (D.walk (D.slice (D.var 2) none (some (D.op1 O.len (D.var 3))))) (D.asg (D.tsub (D.var 4) (D.popAt (D.var 3) (D.call i__law_draw (D.cons (D.var 0) (D.cons (D.op2 O.min2 (D.c (.int 3)) (D.op1 O.len (D.var 3))) D.nil))))) (D.var 5)))
  (D.ret (D.op2 O.add (D.slice (D.var 1) none (some (D.c (.int 4)))) (D.tup (D.cons (D.op1 O.tuple (D.lc [8] (D.walk (D.op1 O.sortedD (D.var 4))) (D.tn 8) [] (D.tup (D.cons (D.var 8) (D.cons (D.op2 O.item (D.var 4) (D.var 8)) D.nil))))) D.nil))))))))
/-- _law_arm(_law_pen_here, _law_most, _law_held, _law_arms, _law_many, _law_some, _law_weights, _law_lap) imp -/
def b__law_arm : DS :=
  (D.seq (D.asg (D.tn 4) (D.op2 O.add (D.c (.int 1)) (D.call i__law_draw (D.cons (D.var 0) (D.cons (D.var 3) D.nil)))))
  (D.seq (D.asg (D.tn 5) (D.lc [7] (D.range1 (D.var 4)) (D.tn 7) [] (D.call i__law_lone (D.cons (D.var 0) (D.cons (D.var 1) (D.cons (D.var 2) D.nil))))))
  (D.seq (D.asg (D.tn 6) (D.lc [7] (D.range1 (D.call i__law_draw (D.cons (D.var 0) (D.cons (D.c (.int 3)) D.nil)))) (D.tn 7) [] (D.op2 O.add (D.c (.int 1)) (D.call i__law_draw (D.cons (D.var 0) (D.cons (D.c (.int 9)) D.nil))))))
  (D.seq (D.cond (D.or (D.op2 O.«lt» (D.var 4) (D.c (.int 3))) (D.op2 O.«eq» (D.call i__law_draw (D.cons (D.var 0) (D.cons (D.c (.int 2)) D.nil))) (D.c (.int 0)))) (D.ret (D.call i__law_hung (D.cons (D.var 0) (D.cons (D.op2 O.item (D.var 5) (D.c (.int 0))) (D.cons (D.op2 O.add (D.slice (D.var 5) (some (D.c (.int 1))) none) (D.var 6)) D.nil))))) D.pass)
  (D.ret (D.call i__law_hung (D.cons (D.var 0) (D.cons (D.op2 O.item (D.var 5) (D.c (.int 0))) (D.cons (D.op2 O.add (D.lst (D.cons (D.call i__law_hung (D.cons (D.var 0) (D.cons (D.op2 O.item (D.var 5) (D.c (.int 1))) (D.cons (D.op2 O.add (D.slice (D.var 5) (some (D.c (.int 2))) (some (D.c (.int 3)))) (D.var 6)) D.nil)))) D.nil)) (D.slice (D.var 5) (some (D.c (.int 3))) none)) D.nil)))))))))
/-- _law_paths(_law_arm_here, _law_found, _law_place, _law_thing, _law_path) pure -/
def b__law_paths : DS :=
  (D.seq (D.asg (D.tn 1) (D.lst (D.cons (D.tup D.nil) D.nil)))
  (D.seq (D.for (D.tt [(D.tn 2), (D.tn 3)]) (D.walk (D.op2 O.item (D.var 0) (D.c (.int 4)))) (D.cond (D.op1 O.isTup (D.var 3)) (D.asg (D.tn 1) (D.op2 O.add (D.var 1) (D.lc [4] (D.walk (D.call i__law_paths (D.cons (D.var 3) D.nil))) (D.tn 4) [] (D.op2 O.add (D.tup (D.cons (D.var 2) D.nil)) (D.var 4))))) D.pass))
  (D.ret (D.op1 (O.sortx (.row .int)) (D.var 1)))))
/-- _law_at(_law_arm_here, _law_path, _law_step, _law_place, _law_thing) pure -/
def b__law_at : DS :=
  (D.seq (D.for (D.tn 2) (D.walk (D.var 1)) (D.asg (D.tn 0) (D.op2 O.item (D.lc [3, 4] (D.walk (D.op2 O.item (D.var 0) (D.c (.int 4)))) (D.tt [(D.tn 3), (D.tn 4)]) [(D.op2 O.«eq» (D.var 3) (D.var 2))] (D.var 4)) (D.c (.int 0)))))
  (D.ret (D.var 0)))
/-- _law_beads(_law_pen_here, _law_arm_here, _law_most, _law_many, _law_left, _law_right_here, _law_slack, _law_holds, _law_hung_here, _law_lap) imp -/
def b__law_beads : DS :=
  (D.seq (D.asg (D.tt [(D.tn 4), (D.tn 5), (D.tn 6), (D.tn 7), (D.tn 8)]) (D.var 1))
  (D.seq (D.asg (D.tn 3) (D.call i__law_draw (D.cons (D.var 0) (D.cons (D.op2 O.add (D.c (.int 1)) (D.op2 O.min2 (D.var 7) (D.var 2))) D.nil))))
  (D.ret (D.op1 O.tuple (D.op1 (O.sortx (.two .int .int)) (D.lc [9] (D.range1 (D.var 3)) (D.tn 9) [] (D.tup (D.cons (D.op2 O.sub (D.call i__law_draw (D.cons (D.var 0) (D.cons (D.op2 O.add (D.op2 O.add (D.var 4) (D.var 5)) (D.c (.int 1))) D.nil))) (D.var 4)) (D.cons (D.op2 O.add (D.c (.int 1)) (D.call i__law_draw (D.cons (D.var 0) (D.cons (D.c (.int 3)) D.nil)))) D.nil)))))))))
/-- _law_standing(_law_pen_here, _law_arm_here, _law_most, _law_path) imp -/
def b__law_standing : DS :=
  (D.ret (D.op1 O.tuple (D.lc [3] (D.walk (D.call i__law_paths (D.cons (D.var 1) D.nil))) (D.tn 3) [] (D.call i__law_beads (D.cons (D.var 0) (D.cons (D.call i__law_at (D.cons (D.var 1) (D.cons (D.var 3) D.nil))) (D.cons (D.var 2) D.nil)))))))
/-- _law_load(_law_arm_here, _law_standing_here, _law_path, _law_total, _law_own, _law_beads_here, _law_place, _law_weight, _law_thing) pure -/
def b__law_load : DS :=
  (D.seq (D.asg (D.tn 3) (D.c (.int 0)))
  (D.seq (D.for (D.tt [(D.tn 4), (D.tn 5)]) (D.zipM (D.call i__law_paths (D.cons (D.var 0) D.nil)) (D.var 1)) (D.cond (D.op2 O.«eq» (D.slice (D.var 4) none (some (D.op1 O.len (D.var 2)))) (D.var 2)) (D.seq (D.asg (D.tn 3) (D.op2 O.add (D.var 3) (D.op1 O.sum (D.lc [6, 7] (D.walk (D.var 5)) (D.tt [(D.tn 6), (D.tn 7)]) [] (D.var 7)))))
  (D.asg (D.tn 3) (D.op2 O.add (D.var 3) (D.op1 O.sum (D.lc [6, 8] (D.walk (D.op2 O.item (D.call i__law_at (D.cons (D.var 0) (D.cons (D.var 4) D.nil))) (D.c (.int 4)))) (D.tt [(D.tn 6), (D.tn 8)]) [(D.op1 O.isInt (D.var 8))] (D.var 8)))))) D.pass))
  (D.ret (D.var 3))))
/-- _law_tilt(_law_arm_here, _law_standing_here, _law_path, _law_total, _law_here, _law_beads_here, _law_place, _law_thing, _law_weight) pure -/
def b__law_tilt : DS :=
  (D.seq (D.par 4 5 (D.call i__law_at (D.cons (D.var 0) (D.cons (D.var 2) D.nil))) (D.op2 O.item (D.var 1) (D.index (D.call i__law_paths (D.cons (D.var 0) D.nil)) (D.var 2))))
  (D.seq (D.asg (D.tn 3) (D.op1 O.sum (D.lc [6, 8] (D.walk (D.var 5)) (D.tt [(D.tn 6), (D.tn 8)]) [] (D.op2 O.mulx (D.var 6) (D.var 8)))))
  (D.seq (D.for (D.tt [(D.tn 6), (D.tn 7)]) (D.walk (D.op2 O.item (D.var 4) (D.c (.int 4)))) (D.asg (D.tn 3) (D.op2 O.add (D.var 3) (D.op2 O.mulx (D.var 6) (D.ite (D.op1 O.isInt (D.var 7)) (D.var 7) (D.call i__law_load (D.cons (D.var 0) (D.cons (D.var 1) (D.cons (D.op2 O.add (D.var 2) (D.tup (D.cons (D.var 6) D.nil))) D.nil)))))))))
  (D.ret (D.var 3)))))
/-- _law_word(_law_arm_here, _law_standing_here, _law_path, _law_tilts, _law_slack) pure -/
def b__law_word : DS :=
  (D.seq (D.par 3 4 (D.call i__law_tilt (D.cons (D.var 0) (D.cons (D.var 1) (D.cons (D.var 2) D.nil)))) (D.op2 O.item (D.call i__law_at (D.cons (D.var 0) (D.cons (D.var 2) D.nil))) (D.c (.int 2))))
  (D.ret (D.ite (D.op2 O.«le» (D.op1 O.abs (D.var 3)) (D.var 4)) (D.c (.str (⟨#[108, 101, 118, 101, 108]⟩ : PySem.Str))) (D.ite (D.op2 O.«gt» (D.var 3) (D.c (.int 0))) (D.c (.str (⟨#[114, 105, 103, 104, 116]⟩ : PySem.Str))) (D.c (.str (⟨#[108, 101, 102, 116]⟩ : PySem.Str)))))))
/-- _law_right(_law_arm_here, _law_standing_here, _law_stood, _law_path, _law_owed, _law_lap) pure -/
def b__law_right : DS :=
  (D.seq (D.asg (D.tn 2) (D.op1 O.repr (D.lst (D.cons (D.var 0) (D.cons (D.var 1) D.nil)))))
  (D.seq (D.for (D.tn 3) (D.walk (D.call i__law_paths (D.cons (D.var 0) D.nil))) (D.seq (D.asg (D.tn 4) (D.lst (D.cons (D.call i__law_load (D.cons (D.var 0) (D.cons (D.var 1) (D.cons (D.var 3) D.nil)))) (D.cons (D.call i__law_tilt (D.cons (D.var 0) (D.cons (D.var 1) (D.cons (D.var 3) D.nil)))) (D.cons (D.call i__law_word (D.cons (D.var 0) (D.cons (D.var 1) (D.cons (D.var 3) D.nil)))) D.nil)))))
  (D.for (D.tn 5) (D.range1 (D.c (.int 2))) (D.cond (D.not (D.call i__law_same (D.cons (D.lst (D.cons (D.call i_load (D.cons (D.var 0) (D.cons (D.var 1) (D.cons (D.var 3) D.nil)))) (D.cons (D.call i_tilt (D.cons (D.var 0) (D.cons (D.var 1) (D.cons (D.var 3) D.nil)))) (D.cons (D.call i_word (D.cons (D.var 0) (D.cons (D.var 1) (D.cons (D.var 3) D.nil)))) D.nil)))) (D.cons (D.var 4) D.nil)))) (D.ret (D.c (.bl false))) D.pass))))
  (D.ret (D.op2 O.«eq» (D.op1 O.repr (D.lst (D.cons (D.var 0) (D.cons (D.var 1) D.nil)))) (D.var 2)))))
/-- _law_slacks_right(_law_slack, _law_weight, _law_end, _law_low, _law_arm_here) pure -/
def b__law_slacks_right : DS :=
  (D.seq (D.for (D.tn 0) (D.range1 (D.c (.int 10))) (D.for (D.tn 1) (D.range2 (D.c (.int 1)) (D.c (.int 10))) (D.for (D.tt [(D.tn 2), (D.tn 3)]) (D.walk (D.lst (D.cons (D.tup (D.cons (D.op1 O.neg (D.c (.int 1))) (D.cons (D.c (.str (⟨#[108, 101, 102, 116]⟩ : PySem.Str))) D.nil))) (D.cons (D.tup (D.cons (D.c (.int 1)) (D.cons (D.c (.str (⟨#[114, 105, 103, 104, 116]⟩ : PySem.Str))) D.nil))) D.nil)))) (D.seq (D.asg (D.tn 4) (D.tup (D.cons (D.c (.int 1)) (D.cons (D.c (.int 1)) (D.cons (D.var 0) (D.cons (D.c (.int 1)) (D.cons (D.tup (D.cons (D.tup (D.cons (D.var 2) (D.cons (D.var 1) D.nil))) D.nil)) D.nil)))))))
  (D.seq (D.cond (D.not (D.call i__law_same (D.cons (D.lst (D.cons (D.call i_tilt (D.cons (D.var 4) (D.cons (D.tup (D.cons (D.tup D.nil) D.nil)) (D.cons (D.tup D.nil) D.nil)))) (D.cons (D.call i_load (D.cons (D.var 4) (D.cons (D.tup (D.cons (D.tup D.nil) D.nil)) (D.cons (D.tup D.nil) D.nil)))) D.nil))) (D.cons (D.lst (D.cons (D.op2 O.mulx (D.var 2) (D.var 1)) (D.cons (D.var 1) D.nil))) D.nil)))) (D.ret (D.c (.bl false))) D.pass)
  (D.cond (D.op2 O.«ne» (D.call i_word (D.cons (D.var 4) (D.cons (D.tup (D.cons (D.tup D.nil) D.nil)) (D.cons (D.tup D.nil) D.nil)))) (D.ite (D.op2 O.«le» (D.var 1) (D.var 0)) (D.c (.str (⟨#[108, 101, 118, 101, 108]⟩ : PySem.Str))) (D.var 3))) (D.ret (D.c (.bl false))) D.pass))))))
  (D.ret (D.c (.bl true))))
/-- law(_law_script, _law_k, _law_pen_here, _law_lap, _law_arm_here, _law_standing_here) pure -/
def b_law : DS :=
  (D.seq (D.cond (D.not (D.call i__law_slacks_right D.nil)) (D.ret (D.c (.bl false))) D.pass)
  (D.seq (D.for (D.tn 1) (D.range1 (D.op2 O.max2 (D.c (.int 1)) (D.op2 O.min2 (D.op1 O.len (D.var 0)) (D.c (.int 4))))) (D.seq (D.asg (D.tn 2) (D.call i__law_pen (D.cons (D.call i__law_cell_at (D.cons (D.var 0) (D.cons (D.var 1) D.nil))) D.nil)))
  (D.for (D.tn 3) (D.range1 (D.c (.int 4))) (D.seq (D.asg (D.tn 4) (D.call i__law_arm (D.cons (D.var 2) (D.cons (D.c (.int 3)) (D.cons (D.c (.int 3)) (D.cons (D.c (.int 4)) D.nil))))))
  (D.for (D.tn 5) (D.walk (D.lst (D.cons (D.call i__law_standing (D.cons (D.var 2) (D.cons (D.var 4) (D.cons (D.c (.int 3)) D.nil)))) (D.cons (D.call i__law_standing (D.cons (D.var 2) (D.cons (D.var 4) (D.cons (D.c (.int 1)) D.nil)))) (D.cons (D.op2 O.mulx (D.tup (D.cons (D.tup D.nil) D.nil)) (D.op1 O.len (D.call i__law_paths (D.cons (D.var 4) D.nil)))) D.nil))))) (D.cond (D.not (D.call i__law_right (D.cons (D.var 4) (D.cons (D.var 5) D.nil)))) (D.ret (D.c (.bl false))) D.pass))))))
  (D.ret (D.c (.bl true)))))
def tbl : Nat → Option FnD
  | 0 => some ⟨1, 1, true, b_is_whole⟩
  | 1 => some ⟨3, 3, true, b_is_within⟩
  | 2 => some ⟨3, 3, true, b_is_long⟩
  | 3 => some ⟨1, 3, true, b_rises⟩
  | 4 => some ⟨1, 3, true, b_falls_not⟩
  | 5 => some ⟨2, 10, true, b_is_arm_by⟩
  | 6 => some ⟨1, 1, true, b_is_weight⟩
  | 7 => some ⟨1, 3, true, b_arms_in⟩
  | 8 => some ⟨1, 1, true, b_is_arm⟩
  | 9 => some ⟨1, 1, true, b_need_arm⟩
  | 10 => some ⟨1, 5, true, b_paths_by⟩
  | 11 => some ⟨2, 3, true, b_is_path⟩
  | 12 => some ⟨2, 2, true, b_need_path⟩
  | 13 => some ⟨2, 4, true, b_arm_by⟩
  | 14 => some ⟨2, 2, true, b_is_bead⟩
  | 15 => some ⟨2, 3, true, b_are_beads⟩
  | 16 => some ⟨2, 5, true, b_is_standing_by⟩
  | 17 => some ⟨2, 2, true, b_need_standing⟩
  | 18 => some ⟨3, 3, false, b_Seenu__initu_⟩
  | 19 => some ⟨3, 7, false, b_Seen_look⟩
  | 20 => some ⟨2, 2, true, b_word_by⟩
  | 21 => some ⟨2, 4, true, b_words_by⟩
  | 22 => some ⟨3, 3, true, b_need_place_of⟩
  | 23 => some ⟨3, 3, true, b_load⟩
  | 24 => some ⟨3, 3, true, b_tilt⟩
  | 25 => some ⟨3, 3, true, b_word⟩
  | 26 => some ⟨2, 2, true, b__law_cell_at⟩
  | 27 => some ⟨1, 1, false, b__law_pen⟩
  | 28 => some ⟨2, 4, false, b__law_draw⟩
  | 29 => some ⟨2, 2, true, b__law_same⟩
  | 30 => some ⟨3, 4, false, b__law_lone⟩
  | 31 => some ⟨3, 9, false, b__law_hung⟩
  | 32 => some ⟨4, 8, false, b__law_arm⟩
  | 33 => some ⟨1, 5, true, b__law_paths⟩
  | 34 => some ⟨2, 5, true, b__law_at⟩
  | 35 => some ⟨3, 10, false, b__law_beads⟩
  | 36 => some ⟨3, 4, false, b__law_standing⟩
  | 37 => some ⟨3, 9, true, b__law_load⟩
  | 38 => some ⟨3, 9, true, b__law_tilt⟩
  | 39 => some ⟨3, 5, true, b__law_word⟩
  | 40 => some ⟨2, 6, true, b__law_right⟩
  | 41 => some ⟨0, 5, true, b__law_slacks_right⟩
  | 42 => some ⟨1, 6, true, b_law⟩
  | _ => none
theorem t_is_whole : tbl i_is_whole = some ⟨1, 1, true, b_is_whole⟩ := rfl
theorem t_is_within : tbl i_is_within = some ⟨3, 3, true, b_is_within⟩ := rfl
theorem t_is_long : tbl i_is_long = some ⟨3, 3, true, b_is_long⟩ := rfl
theorem t_rises : tbl i_rises = some ⟨1, 3, true, b_rises⟩ := rfl
theorem t_falls_not : tbl i_falls_not = some ⟨1, 3, true, b_falls_not⟩ := rfl
theorem t_is_arm_by : tbl i_is_arm_by = some ⟨2, 10, true, b_is_arm_by⟩ := rfl
theorem t_is_weight : tbl i_is_weight = some ⟨1, 1, true, b_is_weight⟩ := rfl
theorem t_arms_in : tbl i_arms_in = some ⟨1, 3, true, b_arms_in⟩ := rfl
theorem t_is_arm : tbl i_is_arm = some ⟨1, 1, true, b_is_arm⟩ := rfl
theorem t_need_arm : tbl i_need_arm = some ⟨1, 1, true, b_need_arm⟩ := rfl
theorem t_paths_by : tbl i_paths_by = some ⟨1, 5, true, b_paths_by⟩ := rfl
theorem t_is_path : tbl i_is_path = some ⟨2, 3, true, b_is_path⟩ := rfl
theorem t_need_path : tbl i_need_path = some ⟨2, 2, true, b_need_path⟩ := rfl
theorem t_arm_by : tbl i_arm_by = some ⟨2, 4, true, b_arm_by⟩ := rfl
theorem t_is_bead : tbl i_is_bead = some ⟨2, 2, true, b_is_bead⟩ := rfl
theorem t_are_beads : tbl i_are_beads = some ⟨2, 3, true, b_are_beads⟩ := rfl
theorem t_is_standing_by : tbl i_is_standing_by = some ⟨2, 5, true, b_is_standing_by⟩ := rfl
theorem t_need_standing : tbl i_need_standing = some ⟨2, 2, true, b_need_standing⟩ := rfl
theorem t_Seenu__initu_ : tbl i_Seenu__initu_ = some ⟨3, 3, false, b_Seenu__initu_⟩ := rfl
theorem t_Seen_look : tbl i_Seen_look = some ⟨3, 7, false, b_Seen_look⟩ := rfl
theorem t_word_by : tbl i_word_by = some ⟨2, 2, true, b_word_by⟩ := rfl
theorem t_words_by : tbl i_words_by = some ⟨2, 4, true, b_words_by⟩ := rfl
theorem t_need_place_of : tbl i_need_place_of = some ⟨3, 3, true, b_need_place_of⟩ := rfl
theorem t_load : tbl i_load = some ⟨3, 3, true, b_load⟩ := rfl
theorem t_tilt : tbl i_tilt = some ⟨3, 3, true, b_tilt⟩ := rfl
theorem t_word : tbl i_word = some ⟨3, 3, true, b_word⟩ := rfl
theorem t__law_cell_at : tbl i__law_cell_at = some ⟨2, 2, true, b__law_cell_at⟩ := rfl
theorem t__law_pen : tbl i__law_pen = some ⟨1, 1, false, b__law_pen⟩ := rfl
theorem t__law_draw : tbl i__law_draw = some ⟨2, 4, false, b__law_draw⟩ := rfl
theorem t__law_same : tbl i__law_same = some ⟨2, 2, true, b__law_same⟩ := rfl
theorem t__law_lone : tbl i__law_lone = some ⟨3, 4, false, b__law_lone⟩ := rfl
theorem t__law_hung : tbl i__law_hung = some ⟨3, 9, false, b__law_hung⟩ := rfl
theorem t__law_arm : tbl i__law_arm = some ⟨4, 8, false, b__law_arm⟩ := rfl
theorem t__law_paths : tbl i__law_paths = some ⟨1, 5, true, b__law_paths⟩ := rfl
theorem t__law_at : tbl i__law_at = some ⟨2, 5, true, b__law_at⟩ := rfl
theorem t__law_beads : tbl i__law_beads = some ⟨3, 10, false, b__law_beads⟩ := rfl
theorem t__law_standing : tbl i__law_standing = some ⟨3, 4, false, b__law_standing⟩ := rfl
theorem t__law_load : tbl i__law_load = some ⟨3, 9, true, b__law_load⟩ := rfl
theorem t__law_tilt : tbl i__law_tilt = some ⟨3, 9, true, b__law_tilt⟩ := rfl
theorem t__law_word : tbl i__law_word = some ⟨3, 5, true, b__law_word⟩ := rfl
theorem t__law_right : tbl i__law_right = some ⟨2, 6, true, b__law_right⟩ := rfl
theorem t__law_slacks_right : tbl i__law_slacks_right = some ⟨0, 5, true, b__law_slacks_right⟩ := rfl
theorem t_law : tbl i_law = some ⟨1, 6, true, b_law⟩ := rfl
end Dn

/-! How the machine is computed with in proofs. -/
namespace Dn
open PySem
theorem callN_fn {tbl : Nat → Option FnD} {f : Nat} {d : FnD} (h : tbl f = some d) (n : Nat) (vs : List PV) (st : Store) : callN tbl (n + 1) f vs st = runFn d (callN tbl n) vs st := by simp only [callN, h]
theorem run_pure {d : FnD} {c : CS} {vs : List PV} {st st' : Store} {fl : Flow} {σ' : Env} {v w : PV} (hp : d.pure = true) (hl : vs.length.beq d.np = true) (hv : plainL vs = true) (hb : d.body c (start d.size vs) [] = .ok (fl, σ') st') (hr : retOf fl = some w) (hf : freeze st' 4 w = some v) : runFn d c vs st = .ok v st := by
  simp only [runFn, hl, hp, hv, hb, hr, if_true, Option.bind_some, hf, Res.of_some]
theorem run_imp {d : FnD} {c : CS} {vs : List PV} {st st' : Store} {fl : Flow} {σ' : Env} {w : PV} (hp : d.pure = false) (hl : vs.length.beq d.np = true) (hb : d.body c (start d.size vs) st = .ok (fl, σ') st') (hr : retOf fl = some w) : runFn d c vs st = .ok w st' := by
  simp [runFn, hl, hp, hb, hr]
/-- a call of a def that changes nothing -/
theorem fn_pure {tbl : Nat → Option FnD} {f np sz : Nat} {B : DS} (h : tbl f = some ⟨np, sz, true, B⟩) {n : Nat} {vs : List PV} {st st' : Store} {fl : Flow} {σ' : Env} {v w : PV} (hl : vs.length.beq np = true) (hv : plainL vs = true) (hb : B (callN tbl n) (start sz vs) [] = .ok (fl, σ') st') (hr : retOf fl = some w) (hf : freeze st' 4 w = some v) :
    callN tbl (n + 1) f vs st = .ok v st := (callN_fn h n vs st).trans (run_pure rfl hl hv hb hr hf)
theorem fn_imp {tbl : Nat → Option FnD} {f np sz : Nat} {B : DS} (h : tbl f = some ⟨np, sz, false, B⟩) {n : Nat} {vs : List PV} {st st' : Store} {fl : Flow} {σ' : Env} {w : PV} (hl : vs.length.beq np = true) (hb : B (callN tbl n) (start sz vs) st = .ok (fl, σ') st') (hr : retOf fl = some w) :
    callN tbl (n + 1) f vs st = .ok w st' := (callN_fn h n vs st).trans (run_imp rfl hl hb hr)
/-- how a body ends -/
def fin : Res (Flow × Env) → Option Flow
  | .ok p _ => some p.1
  | _ => none
@[simp] theorem fin_ok (p : Flow × Env) (st : Store) : fin (.ok p st) = some p.1 := rfl
theorem fin_inv {r : Res (Flow × Env)} {f : Flow} (h : fin r = some f) : ∃ σ st, r = .ok (f, σ) st := by
  cases r with
  | ok p st => cases h; exact ⟨p.2, st, rfl⟩
  | exc e st => cases h
  | bad => cases h
/-- a value is returned -/
theorem fn_ret {tbl : Nat → Option FnD} {f np sz : Nat} {B : DS} (h : tbl f = some ⟨np, sz, true, B⟩) {n : Nat} {vs : List PV} {st : Store} {v : PV} (hl : vs.length.beq np = true) (hv : plainL vs = true) (hb : fin (B (callN tbl n) (start sz vs) []) = some (.ret v)) (hf : plain v = true) :
    callN tbl (n + 1) f vs st = .ok v st := by
  obtain ⟨σ, st', e⟩ := fin_inv hb
  exact fn_pure h hl hv e rfl (freeze_plain _ _ hf)
theorem fn_non {tbl : Nat → Option FnD} {f np sz : Nat} {B : DS} (h : tbl f = some ⟨np, sz, true, B⟩) {n : Nat} {vs : List PV} {st : Store} (hl : vs.length.beq np = true) (hv : plainL vs = true) (hb : fin (B (callN tbl n) (start sz vs) []) = some .nx) :
    callN tbl (n + 1) f vs st = .ok .non st := by
  obtain ⟨σ, st', e⟩ := fin_inv hb
  exact fn_pure h hl hv e rfl (freeze_plain _ _ rfl)
theorem up {k n : Nat} (h : k + 1 ≤ n) : ∃ m, n = m + 1 ∧ k ≤ m := ⟨n - 1, by omega, by omega⟩

section
variable {cs : CS} {σ : Env} {st : Store} {a b d t : DE} {es : DEs} {x y : DS} {v : PV}
@[simp] theorem e_c : D.c v cs σ st = .ok v st := rfl
@[simp] theorem e_var {i : Nat} : D.var i cs σ st = match σ[i]? with | some (some v) => .ok v st | _ => .bad := rfl
@[simp] theorem e_nil : D.nil cs σ st = .ok [] st := rfl
@[simp] theorem e_cons : D.cons a es cs σ st = (a cs σ st).bind fun v st => (es cs σ st).bind fun vs st => .ok (v :: vs) st := rfl
@[simp] theorem e_tup : D.tup es cs σ st = (es cs σ st).bind fun vs st => if vs.length ≤ 1000000 then .ok (.tup vs) st else .bad := rfl
@[simp] theorem e_lst : D.lst es cs σ st = (es cs σ st).bind fun vs st => if vs.length ≤ 1000000 then .ok (.lst vs) st else .bad := rfl
@[simp] theorem e_op1 {f : PV → Option PV} : D.op1 f a cs σ st = (a cs σ st).bind fun x st => .of st (f (deref st x)) := rfl
@[simp] theorem e_op2 {f : PV → PV → Option PV} : D.op2 f a b cs σ st = (a cs σ st).bind fun x st => (b cs σ st).bind fun y st => .of st (f (deref st x) (deref st y)) := rfl
@[simp] theorem e_and : D.and a b cs σ st = (a cs σ st).bind fun x st => match x with | .bl true => b cs σ st | .bl false => .ok (.bl false) st | _ => .bad := rfl
@[simp] theorem e_or : D.or a b cs σ st = (a cs σ st).bind fun x st => match x with | .bl true => .ok (.bl true) st | .bl false => b cs σ st | _ => .bad := rfl
@[simp] theorem e_not : D.not a cs σ st = (a cs σ st).bind fun x st => match x with | .bl b => .ok (.bl (!b)) st | _ => .bad := rfl
@[simp] theorem e_ite : D.ite t a b cs σ st = (t cs σ st).bind fun x st => match x with | .bl true => a cs σ st | .bl false => b cs σ st | _ => .bad := rfl
@[simp] theorem e_chain {f g : PV → PV → Option PV} : D.chain f g a b d cs σ st = (a cs σ st).bind fun x st => (b cs σ st).bind fun y st => (Res.of st (f (deref st x) (deref st y))).bind fun z st => match z with
    | .bl true => (d cs σ st).bind fun w st => .of st (g (deref st y) (deref st w))
    | .bl false => .ok (.bl false) st
    | _ => .bad := rfl
@[simp] theorem e_call {f : Nat} {dfl : List PV} : D.call f es dfl cs σ st = (es cs σ st).bind fun vs st => cs f (vs ++ dfl) st := rfl
@[simp] theorem e_slice {lo hi : Option DE} : D.slice a lo hi cs σ st = (a cs σ st).bind fun x st => D.part cs σ lo (fun l st => D.part cs σ hi (fun h st => .of st (O.slice (deref st x) l h)) st) st := rfl
@[simp] theorem e_part0 {k : Option Int → Store → Res PV} : D.part cs σ none k st = k none st := rfl
@[simp] theorem e_part1 {k : Option Int → Store → Res PV} : D.part cs σ (some d) k st = (d cs σ st).bind fun v st => match v with | .int i => k (some i) st | _ => .bad := rfl
@[simp] theorem s_seq : D.seq x y cs σ st = (x cs σ st).bind fun p st => match p.1 with | .nx => y cs p.2 st | _ => .ok p st := rfl
@[simp] theorem s_ret : D.ret a cs σ st = (a cs σ st).bind fun v st => .ok (.ret v, σ) st := rfl
@[simp] theorem s_expr : D.expr a cs σ st = (a cs σ st).bind fun _ st => .ok (.nx, σ) st := rfl
@[simp] theorem s_pass : D.pass cs σ st = .ok (.nx, σ) st := rfl
@[simp] theorem s_asg {tg : DTg} : D.asg tg a cs σ st = (a cs σ st).bind fun v st => (tg cs v σ st).bind fun σ st => .ok (.nx, σ) st := rfl
@[simp] theorem s_par {i j : Nat} : D.par i j a b cs σ st = (a cs σ st).bind fun v st => (b cs σ st).bind fun w st => .ok (.nx, (σ.set i (some v)).set j (some w)) st := rfl
@[simp] theorem s_par3 {i j l : Nat} : D.par3 i j l a b d cs σ st = (a cs σ st).bind fun v st => (b cs σ st).bind fun w st => (d cs σ st).bind fun u st => .ok (.nx, ((σ.set i (some v)).set j (some w)).set l (some u)) st := rfl
@[simp] theorem s_cond : D.cond t x y cs σ st = (t cs σ st).bind fun v st => match v with | .bl true => x cs σ st | .bl false => y cs σ st | _ => .bad := rfl
@[simp] theorem g_tn {i : Nat} : D.tn i cs v σ st = .ok (σ.set i (some v)) st := rfl
@[simp] theorem g_tt {ts : List DTg} : D.tt ts cs v σ st = match deref st v with
  | .tup xs => if xs.length.beq ts.length then D.tts ts cs xs σ st else .bad
  | .lst xs => if xs.length.beq ts.length then D.tts ts cs xs σ st else .bad
  | _ => .bad := rfl
@[simp] theorem g_tts0 : D.tts [] cs [] σ st = .ok σ st := rfl
@[simp] theorem g_tts1 {t : DTg} {ts : List DTg} {vs : List PV} : D.tts (t :: ts) cs (v :: vs) σ st = (t cs v σ st).bind fun σ st => D.tts ts cs vs σ st := rfl
@[simp] theorem i_walkT {xs : List PV} : D.walk (D.c (.tup xs)) cs σ st = .ok (xs, none) st := rfl
theorem i_walk : D.walk a cs σ st = (a cs σ st).bind fun x st => match x with
  | .tup xs => .ok (xs, none) st
  | .lst xs => .ok (xs, none) st
  | .scr ns => .ok (ns.map .int, none) st
  | .ref n => (match st[n]? with | some (.lst xs) => .ok (xs, some n) st | _ => .bad)
  | _ => .bad := rfl
theorem walk_tup {xs : List PV} (h : a cs σ st = .ok (.tup xs) st) : D.walk a cs σ st = .ok (xs, none) st := by rw [i_walk, h]; rfl
theorem walk_lst {xs : List PV} (h : a cs σ st = .ok (.lst xs) st) : D.walk a cs σ st = .ok (xs, none) st := by rw [i_walk, h]; rfl
theorem walk_ref {n : Nat} {xs : List PV} (h : a cs σ st = .ok (.ref n) st) (e : st[n]? = some (.lst xs)) : D.walk a cs σ st = .ok (xs, some n) st := by rw [i_walk, h]; simp [e]
end
section
variable {cs : CS} {σ : Env} {st : Store} {a b d t : DE} {es : DEs} {x y : DS} {v : PV}
@[simp] theorem e_fresh : D.fresh a cs σ st = (a cs σ st).bind fun v st => match v with
  | .lst xs => .ok (.ref st.length) (st ++ [.lst xs])
  | .dic t kvs => .ok (.ref st.length) (st ++ [.dic t kvs])
  | _ => .bad := rfl
@[simp] theorem e_dict0 {t : Bool} : D.dict t [] cs σ st = .ok (.dic t []) st := rfl
theorem e_extend : D.extend a b cs σ st = (a cs σ st).bind fun x st => if D.lstAt st x then (b cs σ st).bind fun v st => match x with
    | .ref n => (match st[n]?, deref st v with
        | some (.lst xs), .lst ys => if xs.length + ys.length < 1000000 then .ok .non (st.set n (.lst (xs ++ ys))) else .bad
        | _, _ => .bad)
    | _ => .bad
  else .bad := rfl
theorem extend_ok {n : Nat} {xs ys : List PV} (h1 : a cs σ st = .ok (.ref n) st) (h2 : st[n]? = some (.lst xs)) (h3 : b cs σ st = .ok (.lst ys) st) (h4 : xs.length + ys.length < 1000000) : D.extend a b cs σ st = .ok .non (st.set n (.lst (xs ++ ys))) := by
  rw [e_extend, h1]
  simp [D.lstAt, h2, h3, h4]
theorem append_ok {n : Nat} {xs : List PV} {v : PV} {st' : Store} (h1 : a cs σ st = .ok (.ref n) st) (h0 : ∃ zs, st[n]? = some (.lst zs)) (h3 : b cs σ st = .ok v st') (h2 : st'[n]? = some (.lst xs)) (h4 : xs.length < 1000000) : D.append a b cs σ st = .ok .non (st'.set n (.lst (xs ++ [v]))) := by
  obtain ⟨zs, h0⟩ := h0
  unfold D.append
  rw [h1]
  simp [D.lstAt, h0, h3, h2, h4]
theorem s_for {tg : DTg} {it : DI} {body : DS} : D.for tg it body cs σ st = (it cs σ st).bind fun p st => D.forL tg body cs p.2 p.1 p.1 σ st := rfl
end
/-! ### comprehensions -/
theorem lcL_map {α : Type} {tg : DTg} {ts : List DE} {e : DE} {c : CS} {σ : Env} {src : Option Nat} {all : List PV} {st : Store} {f : α → PV} {g : α → PV} {p : α → Bool} (hs : D.stands src all st = true) : ∀ M : List α,
    (∀ x ∈ M, ∃ σ1, tg c (f x) σ st = .ok σ1 st ∧ D.tests ts c σ1 st = .ok (p x) st ∧ (p x = true → e c σ1 st = .ok (g x) st)) → D.lcL tg ts e c σ src all (M.map f) st = .ok ((M.filter p).map g) st
  | [], _ => by simp [D.lcL, hs]
  | x :: M, h => by
    obtain ⟨σ1, h1, h2, h3⟩ := h x List.mem_cons_self
    have ih := lcL_map hs M fun y hy => h y (List.mem_cons_of_mem _ hy)
    simp only [List.map_cons, D.lcL, hs, if_true, h1, Res.bind_ok, h2]
    cases hp : p x with
    | true => simp [h3 hp, ih, hp]
    | false => simp [ih, hp]
theorem lc_map {α : Type} {own : List Nat} {it : DI} {tg : DTg} {ts : List DE} {e : DE} {c : CS} {σ : Env} {src : Option Nat} {st : Store} (f : α → PV) (g : α → PV) (p : α → Bool) (M : List α) (hi : it c σ st = .ok (M.map f, src) st) (hs : D.stands src (M.map f) st = true) (hn : M.length ≤ 1000000)
    (h : ∀ x ∈ M, ∃ σ1, tg c (f x) (D.wipe σ own) st = .ok σ1 st ∧ D.tests ts c σ1 st = .ok (p x) st ∧ (p x = true → e c σ1 st = .ok (g x) st)) : D.lc own it tg ts e c σ st = .ok (.lst ((M.filter p).map g)) st := by
  unfold D.lc
  rw [hi]
  simp only [Res.bind_ok, List.length_map, hn, if_true, lcL_map hs M h, Res.calm_ok]
/-- .. without a test -/
theorem lc_all {α : Type} {own : List Nat} {it : DI} {tg : DTg} {e : DE} {c : CS} {σ : Env} {src : Option Nat} {st : Store} (f : α → PV) (g : α → PV) (M : List α) (hi : it c σ st = .ok (M.map f, src) st) (hs : D.stands src (M.map f) st = true) (hn : M.length ≤ 1000000)
    (h : ∀ x ∈ M, ∃ σ1, tg c (f x) (D.wipe σ own) st = .ok σ1 st ∧ e c σ1 st = .ok (g x) st) : D.lc own it tg [] e c σ st = .ok (.lst (M.map g)) st := by
  have := lc_map (ts := []) (tg := tg) (e := e) f g (fun _ => true) M hi hs hn fun x hx => by
    obtain ⟨σ1, h1, h2⟩ := h x hx
    exact ⟨σ1, h1, rfl, fun _ => h2⟩
  rw [List.filter_eq_self.mpr (fun _ _ => rfl)] at this
  exact this
/-! ### loops: R says how far it is -/
theorem for_rel {α S : Type} {tg : DTg} {body : DS} {c : CS} {src : Option Nat} {all : List PV} {f : α → PV} (step : S → α → S) (R : S → Env → Store → Prop) (M0 : List α) (hst : ∀ s σ st, R s σ st → D.stands src all st = true)
    (h : ∀ s x σ st, x ∈ M0 → R s σ st → ∃ fl σ' st', ((tg c (f x) σ st).bind fun σ st => body c σ st) = .ok (fl, σ') st' ∧ (fl = .nx ∨ fl = .cnt) ∧ R (step s x) σ' st') :
    ∀ (M : List α) (s : S) (σ : Env) (st : Store), (∀ x ∈ M, x ∈ M0) → R s σ st → ∃ σ' st', D.forL tg body c src all (M.map f) σ st = .ok (.nx, σ') st' ∧ R (M.foldl step s) σ' st'
  | [], s, σ, st, _, r => ⟨σ, st, by simp [D.forL, hst s σ st r], r⟩
  | x :: M, s, σ, st, hm, r => by
    obtain ⟨fl, σ', st', e, hf, r'⟩ := h s x σ st (hm x List.mem_cons_self) r
    obtain ⟨σ2, st2, e2, r2⟩ := for_rel step R M0 hst h M (step s x) σ' st' (fun y hy => hm y (List.mem_cons_of_mem _ hy)) r'
    refine ⟨σ2, st2, ?_, r2⟩
    simp only [List.map_cons, D.forL, hst s σ st r, if_true]
    cases q : tg c (f x) σ st with
    | ok σ1 st1 =>
      rw [q] at e
      simp only [Res.bind_ok] at e ⊢
      rw [e]
      rcases hf with rfl | rfl <;> exact e2
    | exc ex st1 => rw [q] at e; cases e
    | bad => rw [q] at e; cases e
/-- R: what holds while the items of the list are left -/
theorem for_run {α : Type} {tg : DTg} {body : DS} {c : CS} {src : Option Nat} {all : List PV} (f : α → PV) (R : List α → Env → Store → Prop) (hst : ∀ M σ st, R M σ st → D.stands src all st = true)
    (h : ∀ x M σ st, R (x :: M) σ st → ∃ fl σ' st', ((tg c (f x) σ st).bind fun σ st => body c σ st) = .ok (fl, σ') st' ∧ (fl = .nx ∨ fl = .cnt) ∧ R M σ' st') :
    ∀ (M : List α) (σ : Env) (st : Store), R M σ st → ∃ σ' st', D.forL tg body c src all (M.map f) σ st = .ok (.nx, σ') st' ∧ R [] σ' st'
  | [], σ, st, r => ⟨σ, st, by simp [D.forL, hst _ σ st r], r⟩
  | x :: M, σ, st, r => by
    obtain ⟨fl, σ', st', e, hf, r'⟩ := h x M σ st r
    obtain ⟨σ2, st2, e2, r2⟩ := for_run f R hst h M σ' st' r'
    refine ⟨σ2, st2, ?_, r2⟩
    simp only [List.map_cons, D.forL, hst _ σ st r, if_true]
    cases q : tg c (f x) σ st with
    | ok σ1 st1 =>
      rw [q] at e
      simp only [Res.bind_ok] at e ⊢
      rw [e]
      rcases hf with rfl | rfl <;> exact e2
    | exc ex st1 => rw [q] at e; cases e
    | bad => rw [q] at e; cases e
/-- the loop as a statement -/
theorem for_ok {α : Type} {tg : DTg} {it : DI} {body : DS} {c : CS} {src : Option Nat} {σ : Env} {st st1 : Store} (f : α → PV) (M : List α) (R : List α → Env → Store → Prop) (hi : it c σ st = .ok (M.map f, src) st1) (hst : ∀ M' σ st, R M' σ st → D.stands src (M.map f) st = true)
    (h : ∀ x M σ st, R (x :: M) σ st → ∃ fl σ' st', ((tg c (f x) σ st).bind fun σ st => body c σ st) = .ok (fl, σ') st' ∧ (fl = .nx ∨ fl = .cnt) ∧ R M σ' st') (h0 : R M σ st1) : ∃ σ' st', D.for tg it body c σ st = .ok (.nx, σ') st' ∧ R [] σ' st' := by
  obtain ⟨σ', st', e, r⟩ := for_run (tg := tg) (body := body) (c := c) f R hst h M σ st1 h0
  exact ⟨σ', st', by rw [s_for, hi]; exact e, r⟩
/-- a loop, then what follows -/
theorem for_then {α : Type} {tg : DTg} {it : DI} {body : DS} {c : CS} {σ : Env} {st : Store} {G : Res (Flow × Env) → Prop} (f : α → PV) (M : List α) (src : Option Nat) (R : List α → Env → Store → Prop) {st1 : Store} (hi : it c σ st = .ok (M.map f, src) st1) (hst : ∀ M' σ st, R M' σ st → D.stands src (M.map f) st = true)
    (h0 : R M σ st1) (h : ∀ x M σ st, R (x :: M) σ st → ∃ fl σ' st', ((tg c (f x) σ st).bind fun σ st => body c σ st) = .ok (fl, σ') st' ∧ (fl = .nx ∨ fl = .cnt) ∧ R M σ' st') (k : ∀ σ' st', R [] σ' st' → G (.ok (.nx, σ') st')) : G (D.for tg it body c σ st) := by
  obtain ⟨σ', st', e, r⟩ := for_ok (tg := tg) (body := body) (c := c) f M R hi hst h h0
  rw [e]
  exact k σ' st' r
end Dn

/-! Arms as trees, beads, standings: plain Lean. -/
namespace Dn
open PySem
inductive Th where
  | w (n : Int)
  | arm (l r s h : Int) (hs : List (Int × Th))
abbrev Bead := Int × Int
abbrev Path := List Int
abbrev Stand := List (List Bead)
def ppv (q : Path) : PV := .tup (q.map .int)
def bpv (b : Bead) : PV := .tup [.int b.1, .int b.2]
def bspv (bs : List Bead) : PV := .tup (bs.map bpv)
def spv (s : Stand) : PV := .tup (s.map bspv)
mutual
def Th.pv : Th → PV
  | .w n => .int n
  | .arm l r s h hs => .tup [.int l, .int r, .int s, .int h, .tup (hpvs hs)]
def hpvs : List (Int × Th) → List PV
  | [] => []
  | (p, t) :: r => .tup [.int p, t.pv] :: hpvs r
end
def hpv (x : Int × Th) : PV := .tup [.int x.1, x.2.pv]
theorem hpvs_map : ∀ hs, hpvs hs = hs.map hpv
  | [] => rfl
  | (p, t) :: r => by rw [hpvs, hpvs_map r]; rfl
theorem pv_arm (l r s h hs) : (Th.arm l r s h hs).pv = .tup [.int l, .int r, .int s, .int h, .tup (hs.map hpv)] := by rw [Th.pv, hpvs_map]
theorem pv_w (n) : (Th.w n).pv = .int n := by rw [Th.pv]
/-- rising -/
def Rise : List Int → Prop := List.Pairwise (· < ·)
/-- a thing, at most so deep: a weight is none deep -/
def Ok : Nat → Th → Prop
  | _, .w n => 1 ≤ n ∧ n ≤ 9
  | 0, .arm _ _ _ _ _ => False
  | d + 1, .arm l r s h hs => (1 ≤ l ∧ l ≤ 3) ∧ (1 ≤ r ∧ r ≤ 3) ∧ (0 ≤ s ∧ s ≤ 9) ∧ (1 ≤ h ∧ h ≤ 3) ∧ Rise (hs.map (·.1)) ∧ ∀ x ∈ hs, (-l ≤ x.1 ∧ x.1 ≤ r) ∧ Ok d x.2
def Th.isA : Th → Bool
  | .w _ => false
  | .arm _ _ _ _ _ => true
mutual
def Th.paths : Th → List Path
  | .w _ => []
  | .arm _ _ _ _ hs => [] :: pathsL hs
def pathsL : List (Int × Th) → List Path
  | [] => []
  | (p, t) :: r => t.paths.map (p :: ·) ++ pathsL r
end
theorem pathsL_flat : ∀ hs, pathsL hs = hs.flatMap fun x => x.2.paths.map (x.1 :: ·)
  | [] => rfl
  | (p, t) :: r => by rw [pathsL, pathsL_flat r]; rfl
theorem paths_arm (l r s h hs) : (Th.arm l r s h hs).paths = [] :: hs.flatMap fun x => x.2.paths.map (x.1 :: ·) := by rw [Th.paths, pathsL_flat]
theorem paths_w (n) : (Th.w n).paths = [] := by rw [Th.paths]
def look (p : Int) : List (Int × Th) → Option Th
  | [] => none
  | (q, t) :: r => if q = p then some t else look p r
/-- what hangs at a path -/
def Th.sub (t : Th) : Path → Option Th
  | [] => some t
  | p :: q => match t with
    | .w _ => none
    | .arm _ _ _ _ hs => (look p hs).bind fun u => u.sub q
theorem rise_nodup {l : List Int} (h : Rise l) : l.Nodup := h.imp fun h => by omega
theorem look_mem {hs : List (Int × Th)} (h : (hs.map (·.1)).Nodup) {p : Int} {t : Th} (m : (p, t) ∈ hs) : look p hs = some t := by
  induction hs with
  | nil => cases m
  | cons x r ih =>
    obtain ⟨q, u⟩ := x
    rw [List.map_cons, List.nodup_cons] at h
    rcases List.mem_cons.mp m with e | e
    · cases e; simp [look]
    · have : q ≠ p := fun z => h.1 (by subst z; exact List.mem_map.mpr ⟨_, e, rfl⟩)
      simp only [look, if_neg this]
      exact ih h.2 e
theorem look_some {hs : List (Int × Th)} {p : Int} {t : Th} (h : look p hs = some t) : (p, t) ∈ hs := by
  induction hs with
  | nil => cases h
  | cons x r ih =>
    obtain ⟨q, u⟩ := x
    simp only [look] at h
    split at h
    · rename_i e; cases h; subst e; exact List.mem_cons_self
    · exact List.mem_cons_of_mem _ (ih h)
theorem Ok_w {d : Nat} {n : Int} : Ok d (.w n) ↔ 1 ≤ n ∧ n ≤ 9 := by cases d <;> simp [Ok]
theorem Ok.up {d : Nat} : ∀ {t : Th}, Ok d t → Ok (d + 1) t := by
  induction d with
  | zero =>
    intro t h
    cases t with
    | w n => exact h
    | arm l r s h' hs => exact (show False from h).elim
  | succ d ih =>
    intro t h
    cases t with
    | w n => exact h
    | arm l r s h' hs =>
      obtain ⟨a, b, c, e, f, g⟩ := h
      exact ⟨a, b, c, e, f, fun x hx => ⟨(g x hx).1, ih (g x hx).2⟩⟩
/-- a path of an arm leads to an arm -/
theorem sub_paths : ∀ (d : Nat) (t : Th), Ok d t → ∀ q ∈ t.paths, ∃ l r s h hs, t.sub q = some (.arm l r s h hs) ∧ Ok d (.arm l r s h hs)
  | d, .w n, _, q, hq => by rw [paths_w] at hq; cases hq
  | 0, .arm _ _ _ _ _, h, _, _ => (show False from h).elim
  | d + 1, .arm l r s h hs, ok, q, hq => by
    rw [paths_arm] at hq
    rcases List.mem_cons.mp hq with e | e
    · subst e; exact ⟨l, r, s, h, hs, rfl, ok⟩
    · obtain ⟨x, hx, e⟩ := List.mem_flatMap.mp e
      obtain ⟨q', hq', rfl⟩ := List.mem_map.mp e
      obtain ⟨_, _, _, _, hr, hh⟩ := ok
      obtain ⟨l', r', s', h', hs', e1, e2⟩ := sub_paths d x.2 (hh x hx).2 q' hq'
      refine ⟨l', r', s', h', hs', ?_, e2.up⟩
      simp only [Th.sub]
      rw [look_mem (rise_nodup hr) (show (x.1, x.2) ∈ hs from hx)]
      exact e1
/-- a rising row within bounds is short -/
theorem rise_len : ∀ {L : List Int} {a b : Int}, Rise L → (∀ x ∈ L, a ≤ x ∧ x ≤ b) → (L.length : Int) ≤ max 0 (b - a + 1)
  | [], _, _, _, _ => by simp; omega
  | x :: L, a, b, h, hb => by
    have h1 := hb x List.mem_cons_self
    have := rise_len (L := L) (a := x + 1) (b := b) (List.pairwise_cons.mp h).2 fun y hy => ⟨by have := (List.pairwise_cons.mp h).1 y hy; omega, (hb y (List.mem_cons_of_mem _ hy)).2⟩
    simp only [List.length_cons]
    omega
theorem path_len : ∀ (d : Nat) (t : Th), Ok d t → ∀ q ∈ t.paths, q.length ≤ d
  | d, .w n, _, q, hq => by rw [paths_w] at hq; cases hq
  | 0, .arm _ _ _ _ _, h, _, _ => (show False from h).elim
  | d + 1, .arm l r s h hs, ok, q, hq => by
    rw [paths_arm] at hq
    rcases List.mem_cons.mp hq with e | e
    · subst e; simp
    · obtain ⟨x, hx, e⟩ := List.mem_flatMap.mp e
      obtain ⟨q', hq', rfl⟩ := List.mem_map.mp e
      have := path_len d x.2 (ok.2.2.2.2.2 x hx).2 q' hq'
      simp
      omega
theorem sum_filter {α : Type} (p : α → Bool) (g : α → Int) (h : ∀ x, p x = false → g x = 0) : ∀ M : List α, ((M.filter p).map g).sum = (M.map g).sum
  | [] => rfl
  | x :: M => by
    cases hp : p x with
    | true => simp [hp, sum_filter p g h M]
    | false => simp [hp, sum_filter p g h M, h x hp]
theorem paths_count (l r s h hs) : ((Th.arm l r s h hs).paths.length : Int) = 1 + (hs.map fun x => (x.2.paths.length : Int)).sum := by
  rw [paths_arm]
  simp only [List.length_cons]
  suffices e : ∀ hs : List (Int × Th), ((hs.flatMap fun x => x.2.paths.map (x.1 :: ·)).length : Int) = (hs.map fun x => (x.2.paths.length : Int)).sum by
    rw [← e hs]
    omega
  intro hs
  induction hs with
  | nil => rfl
  | cons x hs ih =>
    simp only [List.flatMap_cons, List.length_append, List.length_map, List.map_cons, List.sum_cons, ← ih]
    omega
theorem paths_few {l r s h hs} {k : Nat} (e : (Th.arm l r s h hs).paths.length ≤ k) {x : Int × Th} (hx : x ∈ hs) : x.2.paths.length ≤ k := by
  rw [paths_arm] at e
  simp only [List.length_cons] at e
  have : ∀ hs : List (Int × Th), x ∈ hs → x.2.paths.length ≤ (hs.flatMap fun x => x.2.paths.map (x.1 :: ·)).length := by
    intro hs hx
    induction hs with
    | nil => cases hx
    | cons y hs ih =>
      rcases List.mem_cons.mp hx with z | z
      · subst z; simp only [List.flatMap_cons, List.length_append, List.length_map]; omega
      · have := ih z; simp only [List.flatMap_cons, List.length_append, List.length_map]; omega
  have := this hs hx
  omega
theorem isA_paths {t : Th} (h : t.isA = false) : t.paths = [] := by cases t <;> simp [Th.isA] at h; exact paths_w _
theorem ok_len {d : Nat} {l r s h hs} (ok : Ok (d + 1) (.arm l r s h hs)) : hs.length ≤ 7 := by
  have := rise_len ok.2.2.2.2.1 (fun x hx => by
    obtain ⟨y, hy, rfl⟩ := List.mem_map.mp hx
    exact (ok.2.2.2.2.2 y hy).1)
  rw [List.length_map] at this
  have := ok.1
  have := ok.2.1
  omega
/-- an arm -/
structure GoodArm (t : Th) : Prop where
  a : t.isA = true
  ok : Ok 3 t
  few : t.paths.length ≤ 4
/-! ### values are data -/
@[simp] theorem plain_int (i : Int) : plain (.int i) = true := by simp [plain]
@[simp] theorem plain_bl (i : Bool) : plain (.bl i) = true := by simp [plain]
@[simp] theorem plain_str (i : Str) : plain (.str i) = true := by simp [plain]
@[simp] theorem plain_non : plain .non = true := by simp [plain]
@[simp] theorem plain_scr (i : List Int) : plain (.scr i) = true := by simp [plain]
@[simp] theorem plain_tup (i : List PV) : plain (.tup i) = plainL i := by simp [plain]
@[simp] theorem plain_lst (i : List PV) : plain (.lst i) = plainL i := by simp [plain]
@[simp] theorem plainL_nil : plainL [] = true := by simp [plainL]
@[simp] theorem plainL_cons (x : PV) (i : List PV) : plainL (x :: i) = (plain x && plainL i) := by simp [plainL]
theorem plainL_map {α : Type} {f : α → PV} (h : ∀ x, plain (f x) = true) : ∀ M : List α, plainL (M.map f) = true
  | [] => rfl
  | x :: M => by simp [plainL, h x, plainL_map h M]
theorem plainL_map' {α : Type} {f : α → PV} : ∀ M : List α, (∀ x ∈ M, plain (f x) = true) → plainL (M.map f) = true
  | [], _ => rfl
  | x :: M, h => by simp [plainL, h x List.mem_cons_self, plainL_map' M fun y hy => h y (List.mem_cons_of_mem _ hy)]
mutual
@[simp] theorem plain_pv : ∀ t : Th, plain t.pv = true
  | .w n => by simp [pv_w, plain]
  | .arm l r s h hs => by
    rw [Th.pv]
    simp [plain, plainL, plainL_hpvs hs]
theorem plainL_hpvs : ∀ hs, plainL (hpvs hs) = true
  | [] => rfl
  | (p, t) :: r => by rw [hpvs]; simp [plain, plainL, plain_pv t, plainL_hpvs r]
end
@[simp] theorem plain_hpv (x : Int × Th) : plain (hpv x) = true := by simp [hpv, plain, plainL, plain_pv]
@[simp] theorem plain_ints (q : List Int) : plainL (q.map PV.int) = true := plainL_map (fun _ => rfl) q
@[simp] theorem plain_ppv (q : Path) : plain (ppv q) = true := by simp [ppv, plain]
@[simp] theorem plain_bpv (b : Bead) : plain (bpv b) = true := by simp [bpv]
@[simp] theorem plain_bspv (b : List Bead) : plain (bspv b) = true := by simp [bspv, plain, plainL_map plain_bpv]
@[simp] theorem plain_spv (b : Stand) : plain (spv b) = true := by simp [spv, plain, plainL_map plain_bspv]
@[simp] theorem plainL_bpv (b : List Bead) : plainL (b.map bpv) = true := plainL_map plain_bpv b
@[simp] theorem plainL_bspv (b : Stand) : plainL (b.map bspv) = true := plainL_map plain_bspv b
@[simp] theorem plainL_ppv (b : List Path) : plainL (b.map ppv) = true := plainL_map plain_ppv b
@[simp] theorem plain_hpvL (hs : List (Int × Th)) : plainL (hs.map hpv) = true := plainL_map plain_hpv hs
/-! ### sums, all -/
theorem bools_map {α : Type} (p : α → Bool) : ∀ M : List α, O.bools (M.map fun x => .bl (p x)) = some (M.map p)
  | [] => rfl
  | x :: M => by simp [O.bools, bools_map p M]
@[simp] theorem all_map {α : Type} (p : α → Bool) (M : List α) : O.all (.lst (M.map fun x => .bl (p x))) = some (.bl (M.all p)) := by
  simp [O.all, bools_map, List.all_map]
theorem intsP_map {α : Type} (g : α → Int) : ∀ M : List α, O.intsP (M.map fun x => .int (g x)) = some (M.map g)
  | [] => rfl
  | x :: M => by simp [O.intsP, intsP_map g M]
@[simp] theorem sum_map {α : Type} (g : α → Int) (M : List α) : O.sum (.lst (M.map fun x => .int (g x))) = some (.int (M.map g).sum) := by
  simp [O.sum, intsP_map]
@[simp] theorem all_tt {α : Type} (M : List α) : (M.all fun _ => true) = true := by simp
/-! ### things of whatever kind -/
def known : PV → Bool
  | .dic true _ => false
  | .scr _ => false
  | .ref _ => false
  | _ => true
def isI : PV → Bool
  | .int _ => true
  | _ => false
def inI (a b : Int) : PV → Bool
  | .int i => decide (a ≤ i) && decide (i ≤ b)
  | _ => false
def longP (a b : Int) : PV → Bool
  | .tup xs => decide (a ≤ xs.length) && decide ((xs.length : Int) ≤ b)
  | _ => false
@[simp] theorem inI_int (a b i : Int) : inI a b (.int i) = (decide (a ≤ i) && decide (i ≤ b)) := rfl
@[simp] theorem inI_tup (a b : Int) (xs : List PV) : inI a b (.tup xs) = false := rfl
@[simp] theorem longP_tup (a b : Int) (xs : List PV) : longP a b (.tup xs) = (decide (a ≤ xs.length) && decide ((xs.length : Int) ≤ b)) := rfl
@[simp] theorem known_int (i : Int) : known (.int i) = true := by simp [known]
@[simp] theorem known_tup (i : List PV) : known (.tup i) = true := by simp [known]
@[simp] theorem known_pv (t : Th) : known t.pv = true := by cases t <;> simp [pv_w, pv_arm]
/-! ### rising rows, falling not -/
def pairsOf {α : Type} (L : List α) : List (α × α) := L.zip L.tail
theorem pairs_rise : ∀ {L : List Int}, Rise L → (pairsOf L).all (fun x => decide (x.1 < x.2)) = true
  | [], _ => rfl
  | [_], _ => rfl
  | a :: b :: L, h => by
    have h2 : Rise (b :: L) := (List.pairwise_cons.mp h).2
    have := pairs_rise h2
    simp only [pairsOf, List.tail_cons, List.zip_cons_cons, List.all_cons, Bool.and_eq_true, decide_eq_true_eq] at this ⊢
    exact ⟨(List.pairwise_cons.mp h).1 b List.mem_cons_self, by simpa [pairsOf] using this⟩
theorem zipP_map {α β : Type} (f : α → PV) (g : β → PV) : ∀ (L : List α) (M : List β), D.zipP (L.map f) (M.map g) = (L.zip M).map fun x => .tup [f x.1, g x.2]
  | [], M => by cases M <;> rfl
  | _ :: _, [] => rfl
  | x :: L, y :: M => by simp [D.zipP, zipP_map f g L M]
theorem cut1 (xs : List PV) : O.cut xs (some 1) none = xs.drop 1 := by
  cases xs with
  | nil => rfl
  | cons a l => simp [O.cut, O.sIx]
/-! ### beads, standings -/
def le2 (a b : Bead) : Bool := decide (a.1 < b.1) || (decide (a.1 = b.1) && decide (a.2 ≤ b.2))
def Sorted2 (bs : List Bead) : Prop := bs.Pairwise fun a b => le2 a b = true
structure BeadsOk (l r h : Int) (bs : List Bead) : Prop where
  len : (bs.length : Int) ≤ h
  ok : ∀ b ∈ bs, (-l ≤ b.1 ∧ b.1 ≤ r) ∧ 1 ≤ b.2 ∧ b.2 ≤ 3
  up : Sorted2 bs
structure GoodSt (t : Th) (s : Stand) : Prop where
  len : s.length = t.paths.length
  ok : ∀ x ∈ t.paths.zip s, ∃ l r sl h hs, t.sub x.1 = some (.arm l r sl h hs) ∧ Ok 3 (.arm l r sl h hs) ∧ BeadsOk l r h x.2
theorem le_bpv (a b : Bead) : O.le (bpv a) (bpv b) = some (.bl (le2 a b)) := by
  obtain ⟨a1, a2⟩ := a
  obtain ⟨b1, b2⟩ := b
  simp only [O.le, bpv, flatL, flat, akinL, akin, ltL, lt, same, le2, Bool.and_self, if_true, Option.some.injEq, PV.bl.injEq]
  by_cases h1 : b1 = a1
  · subst h1
    by_cases h2 : b2 = a2
    · subst h2; simp
    · simp [h2]
      by_cases h3 : b2 < a2
      · simp [h3]
      · simp [h3]; omega
  · have : ¬ a1 = b1 := fun e => h1 e.symm
    simp [h1, this]
    by_cases h3 : b1 < a1
    · simp [h3]; omega
    · simp [h3]; omega
theorem pairs_sorted : ∀ {L : List Bead}, Sorted2 L → (pairsOf L).all (fun x => le2 x.1 x.2) = true
  | [], _ => rfl
  | [_], _ => rfl
  | a :: b :: L, h => by
    have h2 : Sorted2 (b :: L) := (List.pairwise_cons.mp h).2
    have := pairs_sorted h2
    simp only [pairsOf, List.tail_cons, List.zip_cons_cons, List.all_cons, Bool.and_eq_true] at this ⊢
    exact ⟨(List.pairwise_cons.mp h).1 b List.mem_cons_self, by simpa [pairsOf] using this⟩
@[simp] theorem known_bpv (b : Bead) : known (bpv b) = true := by simp [bpv]
@[simp] theorem known_bspv (b : List Bead) : known (bspv b) = true := by simp [bspv]
@[simp] theorem known_spv (b : Stand) : known (spv b) = true := by simp [spv]
@[simp] theorem known_ppv (b : Path) : known (ppv b) = true := by simp [ppv]
@[simp] theorem deref_pv (st : Store) (t : Th) : deref st t.pv = t.pv := by cases t <;> simp [pv_w, pv_arm]
@[simp] theorem deref_bpv (st : Store) (t : Bead) : deref st (bpv t) = bpv t := rfl
@[simp] theorem deref_bspv (st : Store) (t : List Bead) : deref st (bspv t) = bspv t := rfl
@[simp] theorem deref_spv (st : Store) (t : Stand) : deref st (spv t) = spv t := rfl
@[simp] theorem deref_ppv (st : Store) (t : Path) : deref st (ppv t) = ppv t := rfl
end Dn

/-! Dicts in the machine: plain Lean. -/
namespace Dn
open PySem
@[simp] theorem eqv_int (i j : Int) : eqv (.int i) (.int j) = decide (i = j) := by simp [eqv]
theorem eqvL_ints : ∀ a b : List Int, eqvL (a.map .int) (b.map .int) = decide (a = b)
  | [], [] => by simp [eqvL]
  | [], _ :: _ => by simp [eqvL]
  | _ :: _, [] => by simp [eqvL]
  | x :: a, y :: b => by
    simp only [List.map_cons, eqvL, eqv_int, eqvL_ints a b]
    by_cases h : x = y <;> by_cases g : a = b <;> simp [h, g]
@[simp] theorem eqv_ppv (a b : Path) : eqv (ppv a) (ppv b) = decide (a = b) := by simp [ppv, eqv, eqvL_ints]
theorem put_new {k v : PV} : ∀ {kvs : List (PV × PV)}, (∀ p ∈ kvs, eqv p.1 k = false) → put k v kvs = kvs ++ [(k, v)] := by
  intro kvs h
  unfold put
  rw [if_neg]
  simp only [List.any_eq_true, not_exists, not_and]
  intro p hp
  simp [h p hp]
theorem pairs_acc {α : Type} {t : Bool} (key val : α → PV) (hk : ∀ x, keyT t (key x) = true) : ∀ (M : List α) (acc : List (PV × PV)), M.Pairwise (fun x y => eqv (key x) (key y) = false) → (∀ p ∈ acc, ∀ x ∈ M, eqv p.1 (key x) = false) →
    D.pairs t (M.map fun x => .tup [key x, val x]) acc = some (acc ++ M.map fun x => (key x, val x))
  | [], acc, _, _ => by simp [D.pairs]
  | x :: M, acc, hd, ha => by
    rw [List.pairwise_cons] at hd
    simp only [List.map_cons, D.pairs, hk x, if_true]
    rw [put_new fun p hp => ha p hp x List.mem_cons_self, pairs_acc key val hk M _ hd.2]
    · simp
    · intro p hp y hy
      rcases List.mem_append.mp hp with z | z
      · exact ha p z y (List.mem_cons_of_mem _ hy)
      · rw [List.mem_singleton.mp z]
        exact hd.1 y hy
theorem pairs_ok {α : Type} {t : Bool} (key val : α → PV) (hk : ∀ x, keyT t (key x) = true) (M : List α) (hd : M.Pairwise (fun x y => eqv (key x) (key y) = false)) : D.pairs t (M.map fun x => .tup [key x, val x]) [] = some (M.map fun x => (key x, val x)) := by
  rw [pairs_acc key val hk M [] hd (by simp)]
  simp
theorem find_map {α : Type} (key val : α → PV) : ∀ (M : List α), M.Pairwise (fun x y => eqv (key x) (key y) = false) → ∀ x ∈ M, eqv (key x) (key x) = true → find (key x) (M.map fun x => (key x, val x)) = some (val x)
  | [], _, x, hx, _ => by cases hx
  | y :: M, hd, x, hx, hs => by
    rw [List.pairwise_cons] at hd
    simp only [List.map_cons, find]
    rcases List.mem_cons.mp hx with z | z
    · subst z; simp [hs]
    · rw [if_neg (by simp [hd.1 x z])]
      exact find_map key val M hd.2 x z hs
theorem find_none {k : PV} : ∀ {kvs : List (PV × PV)}, (∀ p ∈ kvs, eqv p.1 k = false) → find k kvs = none
  | [], _ => rfl
  | (a, v) :: r, h => by
    simp only [find]
    rw [if_neg (by simp [h (a, v) List.mem_cons_self])]
    exact find_none fun p hp => h p (List.mem_cons_of_mem _ hp)
/-- what hangs at an arm as a dict -/
theorem hung_dict {hs : List (Int × Th)} (h : (hs.map (·.1)).Nodup) : D.pairs false (hs.map hpv) [] = some (hs.map fun x => (.int x.1, x.2.pv)) := by
  refine pairs_ok (fun x : Int × Th => PV.int x.1) (fun x => x.2.pv) (fun _ => rfl) hs ?_
  have := List.pairwise_map.mp h
  exact this.imp fun h => by simpa using h
theorem hung_find {hs : List (Int × Th)} (h : (hs.map (·.1)).Nodup) {p : Int} {t : Th} (e : look p hs = some t) : find (.int p) (hs.map fun x => (.int x.1, x.2.pv)) = some t.pv := by
  have m := look_some e
  refine find_map (fun x : Int × Th => PV.int x.1) (fun x => x.2.pv) hs ?_ (p, t) m (by simp)
  have := List.pairwise_map.mp h
  exact this.imp fun h => by simpa using h
/-! ### data that == serves -/
theorem flatL_map {α : Type} {k : Nat} {f : α → PV} (h : ∀ x, flat k (f x) = true) : ∀ M : List α, flatL k (M.map f) = true
  | [] => by simp [flatL]
  | x :: M => by simp [flatL, h x, flatL_map h M]
@[simp] theorem flat_int (k : Nat) (i : Int) : flat k (.int i) = true := by simp [flat]
@[simp] theorem flatL_ints (k : Nat) (q : List Int) : flatL k (q.map PV.int) = true := flatL_map (flat_int k) q
theorem flat_ppv (k : Nat) (q : Path) : flat (k + 1) (ppv q) = true := by simp [ppv, flat]
theorem flatL_ppv (k : Nat) (q : List Path) : flatL (k + 1) (q.map ppv) = true := flatL_map (flat_ppv k) q
theorem in_paths (L : List Path) (q : Path) : O.in (ppv q) (.tup (L.map ppv)) = some (.bl (decide (q ∈ L))) := by
  simp only [O.in, O.inB, flat_ppv 58 q, flatL_ppv 58 L, Bool.and_self, if_true, Option.map_some, Option.some.injEq, PV.bl.injEq, List.any_map]
  rw [Bool.eq_iff_iff]
  simp
/-! ### objects -/
section
variable {cs : CS} {σ : Env} {st st1 st2 : Store} {a b d t : DE} {es : DEs} {x y : DS} {v : PV} {C n : Nat} {f : Str} {fs : List (Str × PV)}
theorem attr_ok (h1 : a cs σ st = .ok (.ref n) st) (h2 : st[n]? = some (.ins C fs)) (h3 : fget f fs = some v) : D.attr C a f cs σ st = .ok v st := by
  unfold D.attr
  rw [h1]
  simp [h2, h3]
theorem meth_ok {m : Str} {g : Nat} {dfl vs : List PV} (h1 : a cs σ st = .ok (.ref n) st) (h2 : st[n]? = some (.ins C fs)) (h3 : fget m fs = none) (h4 : es cs σ st = .ok vs st1) : D.meth C g m a es dfl cs σ st = cs g (.ref n :: (vs ++ dfl)) st1 := by
  unfold D.meth
  rw [h1]
  simp [h2, h3, h4]
theorem tattr_ok (h1 : a cs σ st = .ok (.ref n) st) (h2 : st[n]? = some (.ins C fs)) (h3 : fs.length < 1000) : D.tattr C a f cs v σ st = .ok σ (st.set n (.ins C (fput f v fs))) := by
  unfold D.tattr
  rw [h1]
  simp [h2, h3]
theorem tsub_dic {u : Bool} {k : PV} {kvs : List (PV × PV)} (h1 : a cs σ st = .ok (.ref n) st) (h2 : b cs σ st = .ok k st) (h3 : st[n]? = some (.dic u kvs)) (h4 : keyT u k = true) (h5 : kvs.length < 1000000) : D.tsub a b cs v σ st = .ok σ (st.set n (.dic u (put k v kvs))) := by
  unfold D.tsub
  rw [h1]
  simp [h2, D.store, h3, h4, h5]
end
theorem keyOkL_ints (k : Nat) : ∀ q : List Int, keyOkL k (q.map .int) = true
  | [] => by simp [keyOkL]
  | x :: q => by simp [keyOkL, keyOk, keyOkL_ints k q]
@[simp] theorem keyT_ppv (q : Path) : keyT true (ppv q) = true := by simp [keyT, ppv, keyOk, keyOkL_ints]
/-! ### loads, tilts -/
mutual
def loadT (bd : Path → List Bead) : Path → Th → Int
  | _, .w n => n
  | q, .arm _ _ _ _ hs => ((bd q).map (·.2)).sum + loadL bd q hs
def loadL (bd : Path → List Bead) : Path → List (Int × Th) → Int
  | _, [] => 0
  | q, (p, t) :: r => loadT bd (q ++ [p]) t + loadL bd q r
end
theorem loadL_sum (bd : Path → List Bead) (q : Path) : ∀ hs, loadL bd q hs = (hs.map fun x => loadT bd (q ++ [x.1]) x.2).sum
  | [] => rfl
  | (p, t) :: r => by rw [loadL, loadL_sum bd q r]; simp
theorem load_arm (bd q l r s h hs) : loadT bd q (.arm l r s h hs) = ((bd q).map (·.2)).sum + (hs.map fun x => loadT bd (q ++ [x.1]) x.2).sum := by rw [loadT, loadL_sum]
theorem load_w (bd q n) : loadT bd q (.w n) = n := by rw [loadT]
def tiltT (bd : Path → List Bead) (q : Path) : Th → Int
  | .w _ => 0
  | .arm _ _ _ _ hs => ((bd q).map fun b => b.1 * b.2).sum + (hs.map fun x => x.1 * loadT bd (q ++ [x.1]) x.2).sum
def LD (bd : Path → List Bead) (A : Th) (q : Path) : Int := match A.sub q with | some u => loadT bd q u | none => 0
def TL (bd : Path → List Bead) (A : Th) (q : Path) : Int := match A.sub q with | some u => tiltT bd q u | none => 0
mutual
/-- the paths in the order in which they are looked at -/
def post : Path → Th → List Path
  | _, .w _ => []
  | q, .arm _ _ _ _ hs => postL q hs ++ [q]
def postL : Path → List (Int × Th) → List Path
  | _, [] => []
  | q, (p, t) :: r => post (q ++ [p]) t ++ postL q r
end
theorem postL_flat (q : Path) : ∀ hs, postL q hs = hs.flatMap fun x => post (q ++ [x.1]) x.2
  | [] => rfl
  | (p, t) :: r => by rw [postL, postL_flat q r]; rfl
theorem post_arm (q l r s h hs) : post q (.arm l r s h hs) = (hs.flatMap fun x => post (q ++ [x.1]) x.2) ++ [q] := by rw [post, postL_flat]
theorem post_w (q n) : post q (.w n) = [] := by rw [post]
theorem sub_append : ∀ (A : Th) (q p : Path) {t : Th}, A.sub q = some t → A.sub (q ++ p) = t.sub p
  | A, [], p, t, h => by simp only [Th.sub, Option.some.injEq] at h; subst h; rfl
  | .w n, x :: q, p, t, h => by simp [Th.sub] at h
  | .arm l r s h' hs, x :: q, p, t, h => by
    simp only [Th.sub] at h
    obtain ⟨u, e1, e2⟩ := Option.bind_eq_some_iff.mp h
    show (Th.arm l r s h' hs).sub (x :: (q ++ p)) = _
    simp only [Th.sub, e1, Option.bind_some]
    exact sub_append u q p e2
theorem post_mem : ∀ (d : Nat) (t : Th), Ok d t → ∀ (q p : Path), p ∈ post q t ↔ ∃ r ∈ t.paths, p = q ++ r
  | d, .w n, _, q, p => by simp [post_w, paths_w]
  | 0, .arm _ _ _ _ _, h, _, _ => (show False from h).elim
  | d + 1, .arm l r s h hs, ok, q, p => by
    rw [post_arm, paths_arm]
    simp only [List.mem_append, List.mem_flatMap, List.mem_cons, List.not_mem_nil, or_false, List.mem_map]
    constructor
    · rintro (⟨x, hx, h1⟩ | rfl)
      · obtain ⟨r', h2, rfl⟩ := (post_mem d x.2 (ok.2.2.2.2.2 x hx).2 _ _).mp h1
        exact ⟨x.1 :: r', .inr ⟨x, hx, r', h2, rfl⟩, by simp⟩
      · exact ⟨[], .inl rfl, by simp⟩
    · rintro ⟨r', (rfl | ⟨x, hx, r2, h2, rfl⟩), rfl⟩
      · exact .inr (by simp)
      · exact .inl ⟨x, hx, (post_mem d x.2 (ok.2.2.2.2.2 x hx).2 _ _).mpr ⟨r2, h2, by simp⟩⟩
theorem post_nodup : ∀ (d : Nat) (t : Th), Ok d t → ∀ q, (post q t).Nodup
  | d, .w n, _, q => by simp [post_w]
  | 0, .arm _ _ _ _ _, h, _ => (show False from h).elim
  | d + 1, .arm l r s h hs, ok, q => by
    rw [post_arm, List.nodup_append]
    have nd := rise_nodup ok.2.2.2.2.1
    refine ⟨?_, by simp, ?_⟩
    · have sub : ∀ x ∈ hs, Ok d x.2 := fun x hx => (ok.2.2.2.2.2 x hx).2
      clear ok
      induction hs with
      | nil => simp
      | cons x hs ih =>
        rw [List.map_cons, List.nodup_cons] at nd
        rw [List.flatMap_cons, List.nodup_append]
        refine ⟨post_nodup d x.2 (sub x List.mem_cons_self) _, ih nd.2 fun y hy => sub y (List.mem_cons_of_mem _ hy), ?_⟩
        intro a ha b hb e
        subst e
        obtain ⟨y, hy, hb⟩ := List.mem_flatMap.mp hb
        obtain ⟨r1, _, rfl⟩ := (post_mem d x.2 (sub x List.mem_cons_self) _ _).mp ha
        obtain ⟨r2, _, e⟩ := (post_mem d y.2 (sub y (List.mem_cons_of_mem _ hy)) _ _).mp hb
        have e : q ++ ([x.1] ++ r1) = q ++ ([y.1] ++ r2) := by simpa using e
        have e := List.append_cancel_left e
        simp only [List.cons_append, List.nil_append, List.cons.injEq] at e
        exact nd.1 (e.1 ▸ List.mem_map.mpr ⟨y, hy, rfl⟩)
    · intro a ha b hb e
      subst e
      rw [List.mem_singleton] at hb
      subst hb
      obtain ⟨x, hx, ha⟩ := List.mem_flatMap.mp ha
      obtain ⟨r1, _, e⟩ := (post_mem d x.2 (ok.2.2.2.2.2 x hx).2 _ _).mp ha
      have := congrArg List.length e
      simp at this
/-! ### three things behind what stands -/
def S4 (base : Store) (a b c : PO) (J : Store) : Store := base ++ a :: b :: c :: J
section
variable {base : Store} {a b c x : PO} {J : Store} {j : Nat}
theorem S4_0 : (S4 base a b c J)[base.length]? = some a := by simp [S4]
theorem S4_1 : (S4 base a b c J)[base.length + 1]? = some b := by simp [S4]
theorem S4_2 : (S4 base a b c J)[base.length + 2]? = some c := by simp [S4]
theorem S4_j : (S4 base a b c J)[base.length + 3 + j]? = J[j]? := by
  unfold S4
  rw [List.getElem?_append_right (by omega)]
  have : base.length + 3 + j - base.length = j + 3 := by omega
  rw [this]
  rfl
theorem S4_len : (S4 base a b c J).length = base.length + 3 + J.length := by simp [S4]; omega
theorem S4_set0 : (S4 base a b c J).set base.length x = S4 base x b c J := by
  unfold S4
  rw [List.set_append_right _ _ (Nat.le_refl _), Nat.sub_self]
  rfl
theorem S4_set1 : (S4 base a b c J).set (base.length + 1) x = S4 base a x c J := by
  unfold S4
  rw [List.set_append_right _ _ (by omega)]
  have : base.length + 1 - base.length = 1 := by omega
  rw [this]
  rfl
theorem S4_set2 : (S4 base a b c J).set (base.length + 2) x = S4 base a b x J := by
  unfold S4
  rw [List.set_append_right _ _ (by omega)]
  have : base.length + 2 - base.length = 2 := by omega
  rw [this]
  rfl
theorem S4_setj : (S4 base a b c J).set (base.length + 3 + j) x = S4 base a b c (J.set j x) := by
  unfold S4
  rw [List.set_append_right _ _ (by omega)]
  have : base.length + 3 + j - base.length = j + 3 := by omega
  rw [this]
  rfl
theorem S4_app {K : Store} : S4 base a b c J ++ K = S4 base a b c (J ++ K) := by simp [S4]
end
def ents (f : Path → Int) (P : List Path) : List (PV × PV) := P.map fun p => (ppv p, .int (f p))
theorem ents_put (f : Path → Int) {P : List Path} {q : Path} (h : q ∉ P) : put (ppv q) (.int (f q)) (ents f P) = ents f (P ++ [q]) := by
  rw [put_new]
  · simp [ents]
  · intro p hp
    obtain ⟨r, hr, rfl⟩ := List.mem_map.mp hp
    simp
    exact fun e => h (e ▸ hr)
theorem ents_find (f : Path → Int) {P : List Path} (nd : P.Nodup) {q : Path} (h : q ∈ P) : find (ppv q) (ents f P) = some (.int (f q)) :=
  find_map ppv (fun p => .int (f p)) P (nd.imp fun h => by simpa using h) q h (by simp)
theorem ents_find_last (f : Path → Int) {P : List Path} {q : Path} (h : q ∉ P) : find (ppv q) (ents f (P ++ [q])) = some (.int (f q)) := by
  induction P with
  | nil => simp [ents, find]
  | cons a P ih =>
    simp only [List.mem_cons, not_or] at h
    simp only [ents, List.cons_append, List.map_cons, find, eqv_ppv]
    rw [if_neg (by simp; exact fun e => h.1 e.symm)]
    exact ih h.2
theorem sum_append (a b : List Int) : (a ++ b).sum = a.sum + b.sum := by
  induction a with
  | nil => simp
  | cons x a ih => simp [ih]; omega
@[simp] theorem sameL_refl (x : List PV) : sameL x x = true := sameL_self x
/-! ### a standing by paths -/
def lk (q : Path) : List (Path × List Bead) → List Bead
  | [] => []
  | (p, b) :: r => if p = q then b else lk q r
def bdOf (t : Th) (s : Stand) (q : Path) : List Bead := lk q (t.paths.zip s)
def kvsOf (t : Th) (s : Stand) : List (PV × PV) := (t.paths.zip s).map fun x => (ppv x.1, bspv x.2)
theorem lk_mem : ∀ {z : List (Path × List Bead)}, (z.map (·.1)).Nodup → ∀ x ∈ z, lk x.1 z = x.2
  | [], _, x, hx => by cases hx
  | (p, b) :: r, nd, x, hx => by
    rw [List.map_cons, List.nodup_cons] at nd
    rcases List.mem_cons.mp hx with e | e
    · subst e; simp [lk]
    · have : p ≠ x.1 := fun z => nd.1 (z ▸ List.mem_map.mpr ⟨x, e, rfl⟩)
      simp only [lk, if_neg this]
      exact lk_mem nd.2 x e
theorem paths_nodup : ∀ (d : Nat) (t : Th), Ok d t → t.paths.Nodup
  | d, .w n, _ => by simp [paths_w]
  | 0, .arm _ _ _ _ _, h => (show False from h).elim
  | d + 1, .arm l r s h hs, ok => by
    rw [paths_arm, List.nodup_cons]
    have nd := rise_nodup ok.2.2.2.2.1
    refine ⟨by simp [List.mem_flatMap], ?_⟩
    have sub : ∀ x ∈ hs, Ok d x.2 := fun x hx => (ok.2.2.2.2.2 x hx).2
    clear ok
    induction hs with
    | nil => simp
    | cons x hs ih =>
      rw [List.map_cons, List.nodup_cons] at nd
      rw [List.flatMap_cons, List.nodup_append]
      refine ⟨List.pairwise_map.mpr ((paths_nodup d x.2 (sub x List.mem_cons_self)).imp fun h e => h (List.cons.inj e).2), ih nd.2 fun y hy => sub y (List.mem_cons_of_mem _ hy), ?_⟩
      intro a ha b hb e
      subst e
      obtain ⟨y, hy, hb⟩ := List.mem_flatMap.mp hb
      obtain ⟨r1, _, rfl⟩ := List.mem_map.mp ha
      obtain ⟨r2, _, e⟩ := List.mem_map.mp hb
      exact nd.1 ((List.cons.inj e).1 ▸ List.mem_map.mpr ⟨y, hy, rfl⟩)
theorem zip_fst {α β : Type} : ∀ {a : List α} {b : List β}, b.length = a.length → (a.zip b).map (·.1) = a
  | [], [], _ => rfl
  | x :: a, y :: b, h => by simp at h; simp [zip_fst h]
theorem GoodSt.nodup {t : Th} {s : Stand} (g : GoodArm t) (gs : GoodSt t s) : ((t.paths.zip s).map (·.1)).Nodup := by
  rw [zip_fst gs.len]
  exact paths_nodup 3 t g.ok
theorem zip_ex {α β : Type} : ∀ {a : List α} {b : List β}, b.length = a.length → ∀ x ∈ a, ∃ y, (x, y) ∈ a.zip b
  | [], [], _, x, hx => by cases hx
  | z :: a, y :: b, h, x, hx => by
    rcases List.mem_cons.mp hx with e | e
    · subst e; exact ⟨y, by simp⟩
    · obtain ⟨y', hy⟩ := zip_ex (a := a) (b := b) (by simpa using h) x e
      exact ⟨y', by simp [hy]⟩
theorem bd_at {t : Th} {s : Stand} (g : GoodArm t) (gs : GoodSt t s) {q : Path} (hq : q ∈ t.paths) : (q, bdOf t s q) ∈ t.paths.zip s := by
  obtain ⟨b, hb⟩ := zip_ex gs.len q hq
  have := lk_mem (gs.nodup g) _ hb
  simp only at this
  unfold bdOf
  rw [this]
  exact hb
theorem kvs_find {t : Th} {s : Stand} (g : GoodArm t) (gs : GoodSt t s) {q : Path} (hq : q ∈ t.paths) : find (ppv q) (kvsOf t s) = some (bspv (bdOf t s q)) := by
  have nd := gs.nodup g
  rw [List.Nodup, List.pairwise_map] at nd
  exact find_map (fun x : Path × List Bead => ppv x.1) (fun x => bspv x.2) (t.paths.zip s) (nd.imp fun h => by simpa using h) _ (bd_at g gs hq) (by simp)
theorem bd_ok {t : Th} {s : Stand} (g : GoodArm t) (gs : GoodSt t s) {q : Path} (hq : q ∈ t.paths) : ∃ l r sl h hs, t.sub q = some (.arm l r sl h hs) ∧ Ok 3 (.arm l r sl h hs) ∧ BeadsOk l r h (bdOf t s q) := gs.ok _ (bd_at g gs hq)
theorem bd_small {t : Th} {s : Stand} (g : GoodArm t) (gs : GoodSt t s) {q : Path} (hq : q ∈ t.paths) : (bdOf t s q).length ≤ 3 ∧ ∀ b ∈ bdOf t s q, O.small b.1 = true := by
  obtain ⟨l, r, sl, h, hs, _, ok, bo⟩ := bd_ok g gs hq
  have h1 := ok.1
  have h2 := ok.2.1
  have h3 := ok.2.2.2.1
  have := bo.len
  refine ⟨by omega, fun b hb => ?_⟩
  have := (bo.ok b hb).1
  simp only [O.small, Bool.and_eq_true, decide_eq_true_eq]
  omega
theorem post_count : ∀ (d : Nat) (t : Th), Ok d t → ∀ q, (post q t).length = t.paths.length
  | d, .w n, _, q => by simp [post_w, paths_w]
  | 0, .arm _ _ _ _ _, h, _ => (show False from h).elim
  | d + 1, .arm l r s h hs, ok, q => by
    rw [post_arm, paths_arm]
    simp only [List.length_append, List.length_cons, List.length_nil]
    suffices e : (hs.flatMap fun x => post (q ++ [x.1]) x.2).length = (hs.flatMap fun x => x.2.paths.map (x.1 :: ·)).length by omega
    have sub : ∀ x ∈ hs, Ok d x.2 := fun x hx => (ok.2.2.2.2.2 x hx).2
    clear ok
    induction hs with
    | nil => rfl
    | cons x hs ih =>
      simp only [List.flatMap_cons, List.length_append, List.length_map]
      rw [post_count d x.2 (sub x List.mem_cons_self), ih fun y hy => sub y (List.mem_cons_of_mem _ hy)]
theorem zipP_pp (P : List Path) (s : Stand) : D.zipP (P.map ppv) (s.map bspv) = (P.zip s).map fun x => .tup [ppv x.1, bspv x.2] := zipP_map ppv bspv P s
/-! ### dict comprehensions -/
theorem dcL_map {α : Type} {t : Bool} {tg : DTg} {k e : DE} {c : CS} {σ : Env} {st : Store} (f key val : α → PV) (hk : ∀ x, keyT t (key x) = true) : ∀ (M : List α) (acc : List (PV × PV)), M.Pairwise (fun x y => eqv (key x) (key y) = false) → (∀ p ∈ acc, ∀ x ∈ M, eqv p.1 (key x) = false) →
    (∀ x ∈ M, ∃ σ1, tg c (f x) σ st = .ok σ1 st ∧ k c σ1 st = .ok (key x) st ∧ e c σ1 st = .ok (val x) st) → D.dcL t tg k e c σ (M.map f) acc st = .ok (acc ++ M.map fun x => (key x, val x)) st
  | [], acc, _, _, _ => by simp [D.dcL]
  | x :: M, acc, hd, ha, h => by
    rw [List.pairwise_cons] at hd
    obtain ⟨σ1, h1, h2, h3⟩ := h x List.mem_cons_self
    simp only [List.map_cons, D.dcL, h1, Res.bind_ok, h2, h3, hk x, if_true]
    rw [put_new fun p hp => ha p hp x List.mem_cons_self, dcL_map f key val hk M _ hd.2]
    · simp
    · intro p hp y hy
      rcases List.mem_append.mp hp with z | z
      · exact ha p z y (List.mem_cons_of_mem _ hy)
      · rw [List.mem_singleton.mp z]
        exact hd.1 y hy
    · exact fun y hy => h y (List.mem_cons_of_mem _ hy)
theorem dc_map {α : Type} {t : Bool} {own : List Nat} {it : DI} {tg : DTg} {k e : DE} {c : CS} {σ : Env} {st : Store} (f key val : α → PV) (hk : ∀ x, keyT t (key x) = true) (M : List α) (hd : M.Pairwise (fun x y => eqv (key x) (key y) = false)) (hi : it c σ st = .ok (M.map f, none) st) (hn : M.length ≤ 1000000)
    (h : ∀ x ∈ M, ∃ σ1, tg c (f x) (D.wipe σ own) st = .ok σ1 st ∧ k c σ1 st = .ok (key x) st ∧ e c σ1 st = .ok (val x) st) : D.dc t own it tg k e c σ st = .ok (.dic t (M.map fun x => (key x, val x))) st := by
  unfold D.dc
  rw [hi]
  simp [hn, dcL_map f key val hk M [] hd (by simp) h]
theorem nodup_pp {P : List Path} (h : P.Nodup) : P.Pairwise fun x y => eqv (ppv x) (ppv y) = false := h.imp fun h => by simpa using h
theorem new_ok {C f : Nat} {es : DEs} {dfl vs : List PV} {cs : CS} {σ : Env} {st st1 st2 : Store} (h1 : es cs σ st = .ok vs st1) (h2 : cs f (.ref st1.length :: (vs ++ dfl)) (st1 ++ [.ins C []]) = .ok .non st2) : D.new C f es dfl cs σ st = .ok (.ref st1.length) st2 := by
  unfold D.new
  rw [h1]
  simp [h2]
/-! ### words -/
def sLeft : Str := ⟨#[108, 101, 102, 116]⟩
def sRight : Str := ⟨#[114, 105, 103, 104, 116]⟩
def sLevel : Str := ⟨#[108, 101, 118, 101, 108]⟩
def wordS (sl t : Int) : Str := if t < -sl then sLeft else if t > sl then sRight else sLevel
def WD (bd : Path → List Bead) (A : Th) (q : Path) : Str := match A.sub q with | some (.arm _ _ s _ _) => wordS s (TL bd A q) | _ => sLevel
theorem plainD_map {α : Type} {f g : α → PV} (hf : ∀ x, plain (f x) = true) (hg : ∀ x, plain (g x) = true) : ∀ M : List α, plainD (M.map fun x => (f x, g x)) = true
  | [] => by simp [plainD]
  | x :: M => by simp [plainD, hf x, hg x, plainD_map hf hg M]
@[simp] theorem plain_dic (t : Bool) (kvs : List (PV × PV)) : plain (.dic t kvs) = plainD kvs := by simp [plain]
def wordsD (t : Th) (s : Stand) : List (PV × PV) := t.paths.map fun q => (ppv q, .str (WD (bdOf t s) t q))
@[simp] theorem plain_wordsD (t : Th) (s : Stand) : plainD (wordsD t s) = true := plainD_map plain_ppv (fun _ => by simp) _
theorem words_find {t : Th} (g : GoodArm t) (s : Stand) {q : Path} (hq : q ∈ t.paths) : find (ppv q) (wordsD t s) = some (.str (WD (bdOf t s) t q)) :=
  find_map ppv (fun q => .str (WD (bdOf t s) t q)) t.paths (nodup_pp (paths_nodup 3 t g.ok)) q hq (by simp)
theorem mem_post {t : Th} (g : GoodArm t) {q : Path} (hq : q ∈ t.paths) : q ∈ post [] t := (post_mem 3 t g.ok [] q).mpr ⟨q, hq, rfl⟩
end Dn

/-! Pens, draws, comprehensions that draw: plain Lean. -/
namespace Dn
open PySem
/-- a pen: a list of three numbers at p -/
def Pen (st : Store) (p : Nat) : Prop := ∃ a b c : Int, st[p]? = some (.lst [.int a, .int b, .int c])
/-- from st to st' only the pen at p was written, things were added -/
structure Step (p : Nat) (st st' : Store) : Prop where
  pen : Pen st' p
  len : st.length ≤ st'.length
  keep : ∀ j, j < st.length → j ≠ p → st'[j]? = st[j]?
theorem Pen.lt {st : Store} {p : Nat} (h : Pen st p) : p < st.length := by
  obtain ⟨a, b, c, e⟩ := h
  exact (List.getElem?_eq_some_iff.mp e).1
theorem Step.refl {p : Nat} {st : Store} (h : Pen st p) : Step p st st := ⟨h, Nat.le_refl _, fun _ _ _ => rfl⟩
theorem Step.trans {p : Nat} {a b c : Store} (h : Step p a b) (g : Step p b c) : Step p a c :=
  ⟨g.pen, Nat.le_trans h.len g.len, fun j hj hp => (g.keep j (Nat.lt_of_lt_of_le hj h.len) hp).trans (h.keep j hj hp)⟩
theorem Step.add {p : Nat} {st : Store} (h : Pen st p) (K : Store) : Step p st (st ++ K) := by
  have hp := h.lt
  obtain ⟨a, b, c, e⟩ := h
  refine ⟨⟨a, b, c, by rw [List.getElem?_append_left hp]; exact e⟩, by simp, fun j hj _ => List.getElem?_append_left hj⟩
/-- something behind what stood is written -/
theorem Step.set {p k : Nat} {st st' : Store} {x : PO} (h : Step p st st') (hk : st.length ≤ k) (hp : p < st.length) : Step p st (st'.set k x) := by
  have pk : p ≠ k := by omega
  obtain ⟨a, b, c, e⟩ := h.pen
  refine ⟨⟨a, b, c, by rw [List.getElem?_set_ne (Ne.symm pk)]; exact e⟩, by simp; exact h.len, fun j hj hp => ?_⟩
  rw [List.getElem?_set_ne (by omega)]
  exact h.keep j hj hp
theorem small_mod {i j : Int} (hj : 0 < j) (h : j < 18446744073709551616) : O.small (i % j) = true := by
  have h1 := Int.emod_nonneg i (Int.ne_of_gt hj)
  have h2 := Int.emod_lt_of_pos i hj
  simp only [O.small, Bool.and_eq_true, decide_eq_true_eq]
  omega
/-- a comprehension whose items draw -/
theorem lcL_step {α β : Type} {tg : DTg} {e : DE} {c : CS} {σ : Env} {all : List PV} {p : Nat} (f : α → PV) (g : β → PV) (Q : α → β → Prop) : ∀ (M : List α) (st : Store), Pen st p →
    (∀ x ∈ M, ∀ st, Pen st p → ∃ σ1, tg c (f x) σ st = .ok σ1 st ∧ ∃ y st', e c σ1 st = .ok (g y) st' ∧ Q x y ∧ Step p st st') →
    ∃ (zs : List β) (st' : Store), D.lcL tg [] e c σ none all (M.map f) st = .ok (zs.map g) st' ∧ zs.length = M.length ∧ (∀ xz ∈ M.zip zs, Q xz.1 xz.2) ∧ Step p st st'
  | [], st, hp, _ => ⟨[], st, rfl, rfl, by simp, .refl hp⟩
  | x :: M, st, hp, h => by
    obtain ⟨σ1, h1, y, st1, h2, h3, h4⟩ := h x List.mem_cons_self st hp
    obtain ⟨zs, st2, h5, h6, h7, h8⟩ := lcL_step (all := all) f g Q M st1 h4.pen fun z hz => h z (List.mem_cons_of_mem _ hz)
    refine ⟨y :: zs, st2, ?_, by simp [h6], ?_, h4.trans h8⟩
    · simp [D.lcL, D.stands, D.tests, h1, h2, h5]
    · intro xz hx
      rcases List.mem_cons.mp hx with e | e
      · subst e; exact h3
      · exact h7 xz e
theorem lc_step {α β : Type} {own : List Nat} {it : DI} {tg : DTg} {e : DE} {c : CS} {σ : Env} {st st0 : Store} {p : Nat} (f : α → PV) (g : β → PV) (Q : α → β → Prop) (M : List α) (hi : it c σ st = .ok (M.map f, none) st0) (hs : Step p st st0) (hn : M.length ≤ 1000000)
    (h : ∀ x ∈ M, ∀ st, Pen st p → ∃ σ1, tg c (f x) (D.wipe σ own) st = .ok σ1 st ∧ ∃ y st', e c σ1 st = .ok (g y) st' ∧ Q x y ∧ Step p st st') :
    ∃ (zs : List β) (st' : Store), D.lc own it tg [] e c σ st = .ok (.lst (zs.map g)) st' ∧ zs.length = M.length ∧ (∀ xz ∈ M.zip zs, Q xz.1 xz.2) ∧ Step p st st' := by
  obtain ⟨zs, st', h1, h2, h3, h4⟩ := lcL_step (tg := tg) (e := e) (c := c) (σ := D.wipe σ own) (all := M.map f) f g Q M st0 hs.pen h
  refine ⟨zs, st', ?_, h2, h3, hs.trans h4⟩
  unfold D.lc
  rw [hi]
  simp [hn, h1]
theorem upP_map (lo : Int) : ∀ n : Nat, D.upP lo n = (List.range n).map fun i : Nat => PV.int (lo + i)
  | 0 => rfl
  | n + 1 => by
    rw [D.upP, upP_map (lo + 1) n, List.range_succ_eq_map]
    simp [Function.comp_def]
    intro i _
    omega
theorem range1_ok {a : DE} {c : CS} {σ : Env} {st st' : Store} {k : Int} (h : a c σ st = .ok (.int k) st') (h1 : -1000000 < k) (h2 : k < 1000000) : D.range1 a c σ st = .ok ((List.range k.toNat).map fun i : Nat => PV.int i, none) st' := by
  unfold D.range1
  rw [h]
  simp [h1, h2, upP_map]
theorem range2_ok {a b : DE} {c : CS} {σ : Env} {st st' st2 : Store} {k j : Int} (h : a c σ st = .ok (.int k) st') (h' : b c σ st' = .ok (.int j) st2) (h1 : -1000000 < k) (h2 : k < 1000000) (h3 : -1000000 < j) (h4 : j < 1000000) : D.range2 a b c σ st = .ok ((List.range (j - k).toNat).map fun i : Nat => PV.int (k + i), none) st2 := by
  unfold D.range2
  rw [h]
  simp [h', h1, h2, h3, h4, upP_map]
/-! ### sorting -/
theorem sortP_id : ∀ {xs : List PV}, xs.Pairwise (fun a b => lt b a = false) → sortP xs = xs
  | [], _ => rfl
  | [x], _ => rfl
  | x :: y :: xs, h => by
    rw [List.pairwise_cons] at h
    show sortP.insB x (sortP (y :: xs)) = _
    rw [sortP_id h.2]
    simp [sortP.insB, h.1 y List.mem_cons_self]
def lexlt : List Int → List Int → Bool
  | [], [] => false
  | [], _ :: _ => true
  | _ :: _, [] => false
  | x :: a, y :: b => if x = y then lexlt a b else decide (x < y)
theorem ltL_ints : ∀ a b : List Int, ltL (a.map .int) (b.map .int) = lexlt a b
  | [], [] => by simp [ltL, lexlt]
  | [], _ :: _ => by simp [ltL, lexlt]
  | _ :: _, [] => by simp [ltL, lexlt]
  | x :: a, y :: b => by
    simp only [List.map_cons, ltL, same, lt, lexlt, ltL_ints a b, decide_eq_true_eq]
theorem lt_ppv (a b : Path) : lt (ppv a) (ppv b) = lexlt a b := by simp [ppv, lt, ltL_ints]
theorem paths_rise : ∀ (d : Nat) (t : Th), Ok d t → t.paths.Pairwise fun a b => lexlt b a = false
  | d, .w n, _ => by simp [paths_w]
  | 0, .arm _ _ _ _ _, h => (show False from h).elim
  | d + 1, .arm l r s h hs, ok => by
    rw [paths_arm, List.pairwise_cons]
    refine ⟨fun b hb => by cases b <;> rfl, ?_⟩
    have sub : ∀ x ∈ hs, Ok d x.2 := fun x hx => (ok.2.2.2.2.2 x hx).2
    have ri := ok.2.2.2.2.1
    clear ok
    induction hs with
    | nil => simp
    | cons x hs ih =>
      rw [List.map_cons, Rise, List.pairwise_cons] at ri
      rw [List.flatMap_cons, List.pairwise_append]
      refine ⟨List.pairwise_map.mpr ((paths_rise d x.2 (sub x List.mem_cons_self)).imp fun h => by simpa [lexlt] using h), ih (fun y hy => sub y (List.mem_cons_of_mem _ hy)) ri.2, ?_⟩
      intro a ha b hb
      obtain ⟨y, hy, hb⟩ := List.mem_flatMap.mp hb
      obtain ⟨r1, _, rfl⟩ := List.mem_map.mp ha
      obtain ⟨r2, _, rfl⟩ := List.mem_map.mp hb
      have := ri.1 y.1 (List.mem_map.mpr ⟨y, hy, rfl⟩)
      simp only [lexlt]
      rw [if_neg (by omega)]
      simp
      omega
theorem sort_paths {t : Th} (g : GoodArm t) : sortP (t.paths.map ppv) = t.paths.map ppv := by
  refine sortP_id (List.pairwise_map.mpr ((paths_rise 3 t g.ok).imp fun h => ?_))
  rw [lt_ppv]
  exact h
theorem hasL_map {α : Type} {s : Sh} {f : α → PV} (h : ∀ x, has s (f x) = true) : ∀ M : List α, hasL s (M.map f) = true
  | [] => by simp [hasL]
  | x :: M => by simp [hasL, h x, hasL_map h M]
theorem has_ppv (q : Path) : has (.row .int) (ppv q) = true := by
  simp only [ppv, has]
  exact hasL_map (fun _ => by simp [has]) q
theorem has_bpv (b : Bead) : has (.two .int .int) (bpv b) = true := by simp [bpv, has]
theorem look_filter {hs : List (Int × Th)} (nd : (hs.map (·.1)).Nodup) {p : Int} {t : Th} (e : look p hs = some t) : hs.filter (fun x => decide (x.1 = p)) = [(p, t)] := by
  induction hs with
  | nil => cases e
  | cons x hs ih =>
    obtain ⟨q, u⟩ := x
    rw [List.map_cons, List.nodup_cons] at nd
    simp only [look] at e
    by_cases hq : q = p
    · subst hq
      rw [if_pos rfl] at e
      cases e
      have : hs.filter (fun x => decide (x.1 = q)) = [] := by
        rw [List.filter_eq_nil_iff]
        intro x hx
        simp
        exact fun z => nd.1 (z ▸ List.mem_map.mpr ⟨x, hx, rfl⟩)
      simp [this]
    · rw [if_neg hq] at e
      simp [hq, ih nd.2 e]
/-! ### the law's loads -/
/-- the paths from q down, of those of an arm -/
theorem paths_under : ∀ (d : Nat) (A : Th), Ok d A → ∀ (q : Path) {t : Th}, A.sub q = some t → t.isA = true → A.paths.filter (fun o => decide (o.take q.length = q)) = t.paths.map (q ++ ·)
  | d, A, ok, [], t, e, ht => by
    simp only [Th.sub, Option.some.injEq] at e
    subst e
    simp
  | d, .w n, ok, p :: q, t, e, ht => by simp [Th.sub] at e
  | 0, .arm _ _ _ _ _, ok, _ :: _, _, _, _ => (show False from ok).elim
  | d + 1, .arm l r s h hs, ok, p :: q, t, e, ht => by
    simp only [Th.sub] at e
    obtain ⟨u, e1, e2⟩ := Option.bind_eq_some_iff.mp e
    have nd := rise_nodup ok.2.2.2.2.1
    have sub : ∀ x ∈ hs, Ok d x.2 := fun x hx => (ok.2.2.2.2.2 x hx).2
    have ih := paths_under d u (sub _ (look_some e1)) q e2 ht
    rw [paths_arm, List.filter_cons, if_neg (by simp)]
    clear ok
    induction hs with
    | nil => cases e1
    | cons x hs ihs =>
      obtain ⟨p', u'⟩ := x
      rw [List.map_cons, List.nodup_cons] at nd
      simp only [look] at e1
      rw [List.flatMap_cons, List.filter_append]
      by_cases hp : p' = p
      · subst hp
        rw [if_pos rfl] at e1
        cases e1
        have z : (hs.flatMap fun x => x.2.paths.map (x.1 :: ·)).filter (fun o => decide (o.take (p' :: q).length = p' :: q)) = [] := by
          rw [List.filter_eq_nil_iff]
          intro o ho
          obtain ⟨y, hy, ho⟩ := List.mem_flatMap.mp ho
          obtain ⟨o', _, rfl⟩ := List.mem_map.mp ho
          simp
          exact fun z => absurd (z ▸ List.mem_map.mpr ⟨y, hy, rfl⟩) nd.1
        rw [z, List.append_nil, List.filter_map]
        have : ((fun o => decide (List.take (p' :: q).length o = p' :: q)) ∘ fun x => p' :: x) = fun o => decide (o.take q.length = q) := by
          funext o
          simp
        simp only [this]
        rw [ih]
        simp
      · rw [if_neg hp] at e1
        have z : (u'.paths.map (p' :: ·)).filter (fun o => decide (o.take (p :: q).length = p :: q)) = [] := by
          rw [List.filter_eq_nil_iff]
          intro o ho
          obtain ⟨o', _, rfl⟩ := List.mem_map.mp ho
          simp
          exact fun z => absurd z hp
        simp only [z, List.nil_append]
        exact ihs (by simp only [Th.sub, e1]; exact e2) e1 nd.2 (fun y hy => sub y (List.mem_cons_of_mem _ hy))
/-- the weights that hang at an arm -/
def hangs : Th → List Int
  | .w _ => []
  | .arm _ _ _ _ hs => (hs.filter fun x => !x.2.isA).map fun x => match x.2 with | .w n => n | _ => 0
def own (bd : Path → List Bead) (A : Th) (o : Path) : Int := ((bd o).map (·.2)).sum + (match A.sub o with | some u => (hangs u).sum | none => 0)
theorem sum_own : ∀ (d : Nat) (A t : Th) (bd : Path → List Bead) (q : Path), Ok d t → A.sub q = some t → t.isA = true → ((t.paths.map (q ++ ·)).map (own bd A)).sum = loadT bd q t
  | d, A, .w n, bd, q, _, _, h => by cases h
  | 0, A, .arm _ _ _ _ _, _, _, ok, _, _ => (show False from ok).elim
  | d + 1, A, .arm l r s h hs, bd, q, ok, e, hA => by
    rw [paths_arm, load_arm]
    simp only [List.map_cons, List.append_nil, List.sum_cons]
    have nd := rise_nodup ok.2.2.2.2.1
    have lk' : ∀ x ∈ hs, A.sub (q ++ [x.1]) = some x.2 := fun x hx => by
      rw [sub_append A q [x.1] e]
      simp only [Th.sub, look_mem nd (show (x.1, x.2) ∈ hs from hx), Option.bind_some]
    have sub : ∀ x ∈ hs, Ok d x.2 := fun x hx => (ok.2.2.2.2.2 x hx).2
    have o1 : own bd A q = ((bd q).map (·.2)).sum + ((hs.filter fun x => !x.2.isA).map fun x => match x.2 with | .w n => n | _ => 0).sum := by simp [own, e, hangs]
    rw [o1]
    suffices k : (((hs.flatMap fun x => x.2.paths.map (x.1 :: ·)).map (q ++ ·)).map (own bd A)).sum + ((hs.filter fun x => !x.2.isA).map fun x => match x.2 with | .w n => n | _ => 0).sum = (hs.map fun x => loadT bd (q ++ [x.1]) x.2).sum by omega
    clear hA ok nd e o1
    induction hs with
    | nil => rfl
    | cons x hs ih =>
      have ih := ih (fun y hy => lk' y (List.mem_cons_of_mem _ hy)) fun y hy => sub y (List.mem_cons_of_mem _ hy)
      obtain ⟨p, t⟩ := x
      simp only [List.flatMap_cons, List.map_append, sum_append, List.map_cons, List.sum_cons, List.filter_cons]
      cases ht : t.isA with
      | false =>
        cases t with
        | arm => cases ht
        | w n =>
          simp only [paths_w, List.map_nil, List.sum_nil, Bool.not_false, if_true, List.map_cons, List.sum_cons, load_w]
          omega
      | true =>
        have h1 := sum_own d A t bd (q ++ [p]) (sub _ List.mem_cons_self) (lk' _ List.mem_cons_self) ht
        have e2 : ((t.paths.map (p :: ·)).map (q ++ ·)) = t.paths.map ((q ++ [p]) ++ ·) := by
          simp [Function.comp_def]
        rw [e2, h1]
        simp only [Bool.not_true, if_false, Bool.false_eq_true]
        omega
end Dn

/-! The law's own reckoning: plain Lean. -/
namespace Dn
open PySem
theorem zipM_ok {a b : DE} {cs : CS} {σ : Env} {st st1 st2 : Store} {xs ys : List PV} (h1 : a cs σ st = .ok (.lst xs) st1) (h2 : b cs σ st1 = .ok (.tup ys) st2) : D.zipM a b cs σ st = .ok (D.zipP xs ys, none) st2 := by
  unfold D.zipM
  rw [h1]
  simp [h2]
theorem cut_take (xs : List PV) (k : Nat) : O.cut xs none (some (k : Int)) = xs.take k := by
  have e : ¬ ((k : Int) < 0) := by omega
  simp only [O.cut, O.sIx, if_neg e, List.drop_zero, Int.toNat_natCast, Nat.sub_zero]
  by_cases h : k ≤ xs.length
  · rw [Nat.min_eq_left h]
  · rw [Nat.min_eq_right (by omega), List.take_length, List.take_of_length_le (by omega)]
theorem cut_drop (xs : List PV) (k : Nat) (h : k ≤ xs.length) : O.cut xs (some (k : Int)) none = xs.drop k := by
  have e : ¬ ((k : Int) < 0) := by omega
  simp only [O.cut, O.sIx, if_neg e, Int.toNat_natCast, Nat.min_eq_left h]
  rw [List.take_of_length_le (by simp)]
theorem add_ii (a b : Int) : O.add (.int a) (.int b) = some (.int (a + b)) := rfl
theorem sub_ii (a b : Int) : O.sub (.int a) (.int b) = some (.int (a - b)) := rfl
theorem mulx_ii {a : Int} (h : O.small a = true) (b : Int) : O.mulx (.int a) (.int b) = some (.int (a * b)) := by simp [O.mulx, O.mul, h]
/-- what a path takes, it sees -/
theorem slice_path (o : Path) (k : Nat) : O.slice (ppv o) none (some (k : Int)) = some (ppv (o.take k)) := by
  simp only [ppv, O.slice, cut_take, List.map_take]
theorem eq_path (a b : Path) : O.eq (ppv a) (ppv b) = some (.bl (decide (a = b))) := by
  have h1 := flat_ppv 59 a
  have h2 := flat_ppv 59 b
  simp [O.eq, eqP, h1, h2]
theorem first_path (q : Path) : ∀ {P : List Path}, q ∈ P → ∃ i, O.first (ppv q) (P.map ppv) = some i ∧ P[i]? = some q
  | [], h => by cases h
  | p :: P, h => by
    by_cases e : p = q
    · subst e; exact ⟨0, by simp [O.first], rfl⟩
    · obtain ⟨i, h1, h2⟩ := first_path q (P := P) ((List.mem_cons.mp h).resolve_left fun z => e z.symm)
      exact ⟨i + 1, by simp [O.first, e, h1], by simpa using h2⟩
theorem index_path {P : List Path} {q : Path} (h : q ∈ P) : ∃ i : Nat, O.index (.lst (P.map ppv)) (ppv q) = some (.int i) ∧ P[i]? = some q := by
  obtain ⟨i, h1, h2⟩ := first_path q h
  refine ⟨i, ?_, h2⟩
  have := flat_ppv 58 q
  have := flatL_ppv 58 P
  simp [O.index, *]
theorem zip_get {α β : Type} : ∀ {a : List α} {b : List β} {i : Nat} {x : α}, b.length = a.length → a[i]? = some x → ∃ y, b[i]? = some y ∧ (x, y) ∈ a.zip b
  | [], _, i, x, _, h => by simp at h
  | _ :: _, [], _, _, e, _ => by simp at e
  | x' :: a, y' :: b, 0, x, e, h => by
    simp at h
    subst h
    exact ⟨y', rfl, List.mem_cons_self⟩
  | x' :: a, y' :: b, i + 1, x, e, h => by
    obtain ⟨y, h1, h2⟩ := zip_get (a := a) (b := b) (i := i) (x := x) (by simpa using e) (by simpa using h)
    exact ⟨y, by simpa using h1, List.mem_cons_of_mem _ h2⟩
/-- a standing at the path it has -/
theorem st_get {t : Th} {s : Stand} (g : GoodArm t) (gs : GoodSt t s) {i : Nat} {q : Path} (h : t.paths[i]? = some q) : s[i]? = some (bdOf t s q) := by
  obtain ⟨y, h1, h2⟩ := zip_get gs.len h
  rw [h1]
  have := lk_mem (gs.nodup g) _ h2
  simp only at this
  rw [← this]
  rfl
theorem getL_nat {xs : List PV} {i : Nat} {v : PV} (h : xs[i]? = some v) : getL xs (i : Int) = some v := by
  have := (List.getElem?_eq_some_iff.mp h).1
  unfold getL ixP
  rw [if_pos (by omega), if_pos (by omega)]
  simpa using h
theorem few_hs {d : Nat} {l r s h hs} (ok : Ok d (.arm l r s h hs)) : hs.length ≤ 7 := by
  cases d with
  | zero => exact (show False from ok).elim
  | succ d => exact ok_len ok
@[simp] theorem isInt_w (n : Int) : O.isInt (Th.w n).pv = some (.bl true) := by rw [pv_w]; rfl
@[simp] theorem isInt_arm (l r s h : Int) (hs) : O.isInt (Th.arm l r s h hs).pv = some (.bl false) := by rw [pv_arm]; rfl
theorem isInt_pv (t : Th) : O.isInt t.pv = some (.bl (!t.isA)) := by cases t <;> simp [Th.isA]
def valW (x : Int × Th) : Int := match x.2 with | .w n => n | _ => 0
theorem hangs_arm (l r s h hs) : hangs (.arm l r s h hs) = (hs.filter fun x => !x.2.isA).map valW := rfl
theorem sub_ok : ∀ (d : Nat) (t : Th), Ok d t → ∀ (q : Path) {u : Th}, t.sub q = some u → Ok d u
  | d, t, ok, [], u, e => by
    simp only [Th.sub, Option.some.injEq] at e
    subst e
    exact ok
  | d, .w n, ok, p :: q, u, e => by simp [Th.sub] at e
  | 0, .arm _ _ _ _ _, ok, p :: q, u, e => (show False from ok).elim
  | d + 1, .arm l r s h hs, ok, p :: q, u, e => by
    simp only [Th.sub] at e
    obtain ⟨v, e1, e2⟩ := Option.bind_eq_some_iff.mp e
    exact (sub_ok d v (ok.2.2.2.2.2 _ (look_some e1)).2 q e2).up
theorem sub_mem : ∀ (d : Nat) (t : Th), Ok d t → ∀ (q : Path) {u : Th}, t.sub q = some u → u.isA = true → q ∈ t.paths
  | d, .arm l r s h hs, ok, [], u, e, hu => by
    rw [paths_arm]
    exact List.mem_cons_self
  | d, .w n, ok, [], u, e, hu => by
    simp only [Th.sub, Option.some.injEq] at e
    subst e
    cases hu
  | d, .w n, ok, p :: q, u, e, hu => by simp [Th.sub] at e
  | 0, .arm _ _ _ _ _, ok, p :: q, u, e, hu => (show False from ok).elim
  | d + 1, .arm l r s h hs, ok, p :: q, u, e, hu => by
    simp only [Th.sub] at e
    obtain ⟨v, e1, e2⟩ := Option.bind_eq_some_iff.mp e
    have m := look_some e1
    rw [paths_arm]
    exact List.mem_cons_of_mem _ (List.mem_flatMap.mpr ⟨_, m, List.mem_map.mpr ⟨q, sub_mem d v (ok.2.2.2.2.2 _ m).2 q e2 hu, rfl⟩⟩)
/-! ### the signs of a text -/
def sg (x : Str) : Bool := signsOk x.cps.toList
theorem signs_append : ∀ a b : List Nat, signsOk (a ++ b) = (signsOk a && signsOk b)
  | [], b => by simp [signsOk]
  | x :: a, b => by simp [signsOk, signs_append a b, Bool.and_assoc]
theorem sg_append (a b : Str) : sg (a ++ b) = (sg a && sg b) := by
  show signsOk ((a.cps ++ b.cps).toList) = _
  rw [Array.toList_append, signs_append]
  rfl
theorem signs_chars : ∀ l : List Char, signsOk (l.map Char.toNat) = true
  | [] => rfl
  | c :: l => by
    have h := c.valid
    have ht : c.toNat = c.val.toNat := rfl
    simp only [UInt32.isValidChar, Nat.isValidChar] at h
    simp only [List.map_cons, signsOk, signs_chars l, Bool.and_true, ht, Nat.blt_eq]
    omega
@[simp] theorem sg_of (s : String) : sg (Str.ofString s) = true := by
  unfold sg
  rw [Str.ofString_eq_toList]
  exact signs_chars _
theorem sg_join : ∀ ts : List Str, (∀ t ∈ ts, sg t = true) → sg (Str.join ", " ts) = true
  | [], _ => rfl
  | [x], h => h x List.mem_cons_self
  | x :: y :: r, h => by
    show sg (x ++ ((", " : String) : Str) ++ Str.join ", " (y :: r)) = true
    rw [sg_append, sg_append, h x List.mem_cons_self, sg_of, sg_join (y :: r) fun t ht => h t (List.mem_cons_of_mem _ ht)]
    rfl
theorem sg_from : ∀ (ts : List Str) (k : Nat) (acc : Str), sg acc = true → (∀ t ∈ ts, sg t = true) → sg (textFrom k acc ts) = true
  | [], _, acc, h, _ => h
  | t :: ts, k, acc, h, g => by
    refine sg_from ts (k + 1) _ ?_ fun t ht => g t (List.mem_cons_of_mem _ ht)
    rw [sg_append, sg_append, h, g t List.mem_cons_self]
    simp
mutual
def rOk : PV → Bool
  | .str x => sg (PyData.shown (.str x))
  | .tup xs => rOkL xs
  | .lst xs => rOkL xs
  | _ => true
def rOkL : List PV → Bool
  | [] => true
  | x :: xs => rOk x && rOkL xs
end
mutual
theorem rOk_rep : ∀ x : PV, rOk x = true → sg (PyData.shown (toPD x)) = true
  | .non, _ => sg_of _
  | .bl b, _ => by cases b <;> exact sg_of _
  | .int i, _ => sg_of _
  | .str x, h => by simpa only [rOk, toPD] using h
  | .tup xs, h => by
    simp only [toPD, PyData.shown, tupleText, sg_append, sg_of, Bool.and_true, Bool.true_and]
    exact sg_join _ (rOkL_rep xs (by simpa only [rOk] using h))
  | .lst xs, h => by
    simp only [toPD, PyData.shown, listText, sg_append, sg_of, Bool.and_true, Bool.true_and]
    exact sg_from _ 0 _ (sg_of _) (rOkL_rep xs (by simpa only [rOk] using h))
  | .dic t kvs, _ => sg_of _
  | .ref k, _ => sg_of _
  | .scr k, _ => sg_of _
theorem rOkL_rep : ∀ xs : List PV, rOkL xs = true → ∀ t ∈ PyData.shownAll (toPDs xs), sg t = true
  | [], _, t, ht => by simp [toPDs, PyData.shownAll] at ht
  | x :: xs, h, t, ht => by
    simp only [rOkL, Bool.and_eq_true] at h
    simp only [toPDs, PyData.shownAll] at ht
    rcases List.mem_cons.mp ht with e | e
    · subst e; exact rOk_rep x h.1
    · exact rOkL_rep xs h.2 t e
end
theorem rOkL_map {α : Type} {f : α → PV} : ∀ M : List α, (∀ x ∈ M, rOk (f x) = true) → rOkL (M.map f) = true
  | [], _ => by simp [rOkL]
  | x :: M, h => by simp [rOkL, h x List.mem_cons_self, rOkL_map M fun y hy => h y (List.mem_cons_of_mem _ hy)]
/-! ### what is shown -/
theorem flatL_map' {α : Type} {k : Nat} {f : α → PV} : ∀ M : List α, (∀ x ∈ M, flat k (f x) = true) → flatL k (M.map f) = true
  | [], _ => by simp [flatL]
  | x :: M, h => by simp [flatL, h x List.mem_cons_self, flatL_map' M fun y hy => h y (List.mem_cons_of_mem _ hy)]
theorem okIntL_map {α : Type} {f : α → PV} : ∀ M : List α, (∀ x ∈ M, O.okInt (f x) = true) → O.okIntL (M.map f) = true
  | [], _ => by simp [O.okIntL]
  | x :: M, h => by simp [O.okIntL, h x List.mem_cons_self, okIntL_map M fun y hy => h y (List.mem_cons_of_mem _ hy)]
theorem mszL_map {α : Type} {f : α → PV} {B : Nat} : ∀ M : List α, (∀ x ∈ M, O.msz (f x) ≤ B) → O.mszL (M.map f) ≤ M.length * (B + 2)
  | [], _ => by simp [O.mszL]
  | x :: M, h => by
    have h1 := h x List.mem_cons_self
    have h2 := mszL_map (B := B) M fun y hy => h y (List.mem_cons_of_mem _ hy)
    simp only [List.map_cons, O.mszL, List.length_cons, Nat.add_mul]
    omega
/-- a value that is shown as it is -/
structure Shown (k B : Nat) (x : PV) : Prop where
  fl : ∀ j, k ≤ j → flat j x = true
  ok : O.okInt x = true
  sz : O.msz x ≤ B
  rp : rOk x = true
theorem Shown.int {i : Int} (h : i.natAbs < 1000000000000) : Shown 0 13 (.int i) := ⟨fun _ _ => by simp [flat], by simp [O.okInt, h], by simp [O.msz, h], by simp [rOk]⟩
theorem Shown.mono {k B k' B' : Nat} {x : PV} (h : Shown k B x) (h1 : k ≤ k') (h2 : B ≤ B') : Shown k' B' x := ⟨fun j hj => h.fl j (by omega), h.ok, by have := h.sz; omega, h.rp⟩
theorem Shown.nil {k : Nat} : Shown (k + 1) 3 (.tup []) := ⟨fun j hj => by obtain ⟨i, rfl⟩ : ∃ i, j = i + 1 := ⟨j - 1, by omega⟩; simp [flat, flatL], by simp [O.okInt, O.okIntL], by simp [O.msz, O.mszL], by simp [rOk, rOkL]⟩
theorem Shown.map {α : Type} {f : α → PV} {k B n : Nat} (M : List α) (h : ∀ x ∈ M, Shown k B (f x)) (hn : M.length ≤ n) : Shown (k + 1) (n * (B + 2) + 3) (.tup (M.map f)) := by
  refine ⟨fun j hj => ?_, ?_, ?_, ?_⟩
  · obtain ⟨i, rfl⟩ : ∃ i, j = i + 1 := ⟨j - 1, by omega⟩
    simp only [flat]
    exact flatL_map' M fun x hx => (h x hx).fl i (by omega)
  · simp only [O.okInt]
    exact okIntL_map M fun x hx => (h x hx).ok
  · simp only [O.msz]
    have := mszL_map M fun x hx => (h x hx).sz
    have := Nat.mul_le_mul_right (B + 2) hn
    omega
  · simp only [rOk]
    exact rOkL_map M fun x hx => (h x hx).rp
/-- lists, tuples of a few things -/
theorem Shown.cons {k B C : Nat} {x : PV} {xs : List PV} (h : Shown k B x) (g : Shown (k + 1) C (.tup xs)) : Shown (k + 1) (B + 2 + C) (.tup (x :: xs)) := by
  refine ⟨fun j hj => ?_, ?_, ?_, ?_⟩
  · have g1 := g.fl j hj
    obtain ⟨i, rfl⟩ : ∃ i, j = i + 1 := ⟨j - 1, by omega⟩
    have h1 := h.fl i (by omega)
    simp only [flat, flatL] at g1 ⊢
    simp [h1, g1]
  · have g1 := g.ok
    have h1 := h.ok
    simp only [O.okInt, O.okIntL] at g1 ⊢
    simp [h1, g1]
  · have g1 := g.sz
    have h1 := h.sz
    simp only [O.msz, O.mszL] at g1 ⊢
    omega
  · have g1 := g.rp
    have h1 := h.rp
    simp only [rOk, rOkL] at g1 ⊢
    simp [h1, g1]
theorem Shown.lst {k B : Nat} {xs : List PV} (h : Shown k B (.tup xs)) : Shown k B (.lst xs) := by
  refine ⟨fun j hj => ?_, ?_, ?_, ?_⟩
  · have := h.fl j hj
    cases j <;> simpa [flat] using this
  · have := h.ok
    simpa [O.okInt] using this
  · have := h.sz
    simpa [O.msz] using this
  · have := h.rp
    simpa [rOk] using this
theorem Shown.str {x : Str} (h : sg x = true) (g : sg (PyData.shown (.str x)) = true) : Shown 0 ((PyData.shown (.str x)).length) (.str x) := ⟨fun _ _ => by simpa [flat, sg] using h, by simp [O.okInt], by simp [O.msz], by simpa [rOk] using g⟩
theorem Shown.repr {x : PV} (h : Shown 60 10000000 x) : O.repr x = some (.str (O.rep x)) := by
  have h1 := h.fl 60 (Nat.le_refl _)
  have h2 := h.ok
  have h3 := h.sz
  unfold O.repr
  rw [if_pos (by simp [h1, h2, h3])]
theorem eq_str {x : Str} (h : sg x = true) : O.eq (.str x) (.str x) = some (.bl true) := by
  have h : signsOk x.cps.toList = true := h
  simp [O.eq, eqP, flat, eqv, h]
theorem Shown.eq {x : PV} (h : Shown 60 10000000 x) : O.eq (.str (O.rep x)) (.str (O.rep x)) = some (.bl true) := eq_str (rOk_rep x h.rp)
theorem shown_word (sl T : Int) : Shown 0 20 (.str (wordS sl T)) := by
  unfold wordS
  split
  · exact (Shown.str (by decide +kernel) (by decide +kernel)).mono (by omega) (by decide +kernel)
  · split
    · exact (Shown.str (by decide +kernel) (by decide +kernel)).mono (by omega) (by decide +kernel)
    · exact (Shown.str (by decide +kernel) (by decide +kernel)).mono (by omega) (by decide +kernel)
def mB : Nat → Nat
  | 0 => 13
  | d + 1 => 7 * mB d + 222
theorem mB_le (d : Nat) : 13 ≤ mB d := by cases d <;> simp only [mB] <;> omega
theorem shown_pv : ∀ (d : Nat) (t : Th), Ok d t → Shown (3 * d) (mB d) t.pv
  | d, .w n, ok => by
    have := Ok_w.mp ok
    rw [pv_w]
    exact (Shown.int (by omega)).mono (by omega) (mB_le d)
  | 0, .arm _ _ _ _ _, ok => (show False from ok).elim
  | d + 1, .arm l r s h hs, ok => by
    have len := ok_len ok
    obtain ⟨a, b, c, e, f, gg⟩ := ok
    rw [pv_arm]
    have sh : ∀ x ∈ hs, Shown (3 * d + 1) (mB d + 20) (hpv x) := fun x hx => by
      obtain ⟨g1, g2⟩ := gg x hx
      have i1 := (Shown.int (i := x.1) (by omega)).mono (k' := 3 * d) (B' := 13) (by omega) (by omega)
      have := i1.cons ((shown_pv d x.2 g2).cons Shown.nil)
      exact this.mono (by omega) (by omega)
    have hh := Shown.map hs sh len
    have i1 := fun i (h : i.natAbs < 1000000000000) => (Shown.int (i := i) h).mono (k' := 3 * d + 2) (B' := 13) (by omega) (by omega)
    exact ((i1 l (by omega)).cons ((i1 r (by omega)).cons ((i1 s (by omega)).cons ((i1 h (by omega)).cons (hh.cons Shown.nil))))).mono (by omega) (by simp only [mB]; omega)
theorem shown_spv {t : Th} {s : Stand} (g : GoodArm t) (gs : GoodSt t s) : Shown 3 443 (spv s) := by
  have hb : ∀ bs ∈ s, Shown 2 108 (bspv bs) := fun bs hb => by
    obtain ⟨i, hi, e⟩ := List.mem_iff_getElem.mp hb
    have hz : ∃ q, (q, bs) ∈ t.paths.zip s := by
      refine ⟨t.paths[i]'(by rw [← gs.len]; exact hi), ?_⟩
      rw [← e]
      exact List.mem_iff_getElem.mpr ⟨i, by rw [List.length_zip, gs.len]; simp; rw [← gs.len]; exact hi, by simp⟩
    obtain ⟨q, hz⟩ := hz
    obtain ⟨l, r, sl, h, hs, e1, e2, e3⟩ := gs.ok _ hz
    have l3 := e2.1
    have r3 := e2.2.1
    have h3 := e2.2.2.2.1
    have k1 := e3.len
    exact Shown.map bs (n := 3) (B := 33) (k := 1) (fun b hb => by
      have := e3.ok b hb
      exact ((Shown.int (i := b.1) (by omega)).cons ((Shown.int (i := b.2) (by omega)).cons Shown.nil)).mono (by omega) (by omega)) (by simp only at k1; omega)
  exact Shown.map s (n := 4) hb (by rw [gs.len]; exact g.few)
theorem shown_both {t : Th} {s : Stand} (g : GoodArm t) (gs : GoodSt t s) : Shown 60 10000000 (.lst [t.pv, spv s]) := by
  have a := (shown_pv 3 t g.ok).mono (k' := 9) (B' := 20000) (by omega) (by simp [mB])
  have b := (shown_spv g gs).mono (k' := 9) (B' := 443) (by omega) (by omega)
  exact (a.cons (b.cons Shown.nil)).lst.mono (by omega) (by omega)
/-! ### bounds of loads -/
theorem sum_bound {α : Type} {f : α → Int} {a b : Int} : ∀ (M : List α), (∀ x ∈ M, a ≤ f x ∧ f x ≤ b) → (M.length : Int) * a ≤ (M.map f).sum ∧ (M.map f).sum ≤ (M.length : Int) * b
  | [], _ => by simp
  | x :: M, h => by
    have h1 := h x List.mem_cons_self
    have h2 := sum_bound (a := a) (b := b) M fun y hy => h y (List.mem_cons_of_mem _ hy)
    simp only [List.map_cons, List.sum_cons, List.length_cons, Int.natCast_add, Int.add_mul, Int.natCast_one, Int.one_mul]
    omega
theorem few_mul {n : Nat} {k : Nat} {b : Int} (h : n ≤ k) (hb : 0 ≤ b) : (n : Int) * b ≤ (k : Int) * b := Int.mul_le_mul_of_nonneg_right (by omega) hb
def lB : Nat → Int
  | 0 => 9
  | d + 1 => 9 + 7 * lB d
theorem lB_le : ∀ d : Nat, 9 ≤ lB d
  | 0 => by simp [lB]
  | d + 1 => by have := lB_le d; simp only [lB]; omega
theorem load_bound {t : Th} {s : Stand} (g : GoodArm t) (gs : GoodSt t s) : ∀ (d : Nat) (u : Th) (q : Path), Ok d u → t.sub q = some u → 0 ≤ loadT (bdOf t s) q u ∧ loadT (bdOf t s) q u ≤ lB d
  | d, .w n, q, ok, e => by
    have := Ok_w.mp ok
    have := lB_le d
    rw [load_w]
    omega
  | 0, .arm _ _ _ _ _, q, ok, e => (show False from ok).elim
  | d + 1, .arm l r sl h hs, q, ok, e => by
    have len := ok_len ok
    have hq := sub_mem 3 t g.ok q e rfl
    obtain ⟨l', r', sl', h', hs', e1, e2, e3⟩ := bd_ok g gs hq
    rw [e] at e1
    cases e1
    have k1 := (bd_small g gs hq).1
    rw [load_arm]
    have s1 := sum_bound (f := (·.2)) (a := 0) (b := 3) (bdOf t s q) fun b hb => by have := e3.ok b hb; omega
    have s2 := sum_bound (f := fun x : Int × Th => loadT (bdOf t s) (q ++ [x.1]) x.2) (a := 0) (b := lB d) hs fun x hx => by
      refine load_bound g gs d x.2 _ (ok.2.2.2.2.2 x hx).2 ?_
      rw [sub_append t q [x.1] e]
      simp only [Th.sub, look_mem (rise_nodup ok.2.2.2.2.1) (show (x.1, x.2) ∈ hs from hx), Option.bind_some]
    have := few_mul len (show (0 : Int) ≤ lB d by have := lB_le d; omega)
    simp only [lB]
    omega
theorem mul3 {p b B : Int} (h1 : -3 ≤ p) (h2 : p ≤ 3) (h3 : 0 ≤ b) (h4 : b ≤ B) : -(3 * B) ≤ p * b ∧ p * b ≤ 3 * B := by
  have : p = -3 ∨ p = -2 ∨ p = -1 ∨ p = 0 ∨ p = 1 ∨ p = 2 ∨ p = 3 := by omega
  rcases this with rfl | rfl | rfl | rfl | rfl | rfl | rfl <;> omega
theorem tilt_bound {t : Th} {s : Stand} (g : GoodArm t) (gs : GoodSt t s) {q : Path} (hq : q ∈ t.paths) : (TL (bdOf t s) t q).natAbs < 1000000000000 ∧ (LD (bdOf t s) t q).natAbs < 1000000000000 := by
  obtain ⟨l, r, sl, h, hs, e1, e2, e3⟩ := bd_ok g gs hq
  have len := few_hs e2
  have k1 := (bd_small g gs hq).1
  have l3 := e2.1
  have r3 := e2.2.1
  have ld := load_bound g gs 3 _ q e2 e1
  have lb : lB 3 = 3600 := by decide
  constructor
  · have tl : TL (bdOf t s) t q = ((bdOf t s q).map fun b => b.1 * b.2).sum + (hs.map fun x => x.1 * loadT (bdOf t s) (q ++ [x.1]) x.2).sum := by
      simp only [TL, e1, tiltT]
    have s1 := sum_bound (f := fun b : Bead => b.1 * b.2) (a := -9) (b := 9) (bdOf t s q) fun b hb => by
      have := e3.ok b hb
      have := mul3 (p := b.1) (b := b.2) (B := 3) (by omega) (by omega) (by omega) (by omega)
      omega
    have s2 := sum_bound (f := fun x : Int × Th => x.1 * loadT (bdOf t s) (q ++ [x.1]) x.2) (a := -(3 * 513)) (b := 3 * 513) hs fun x hx => by
      have z := (e2.2.2.2.2.2 x hx)
      have lb2 : lB 2 = 513 := by decide
      have ld := load_bound g gs 2 x.2 (q ++ [x.1]) z.2 (by
        rw [sub_append t q [x.1] e1]
        simp only [Th.sub, look_mem (rise_nodup e2.2.2.2.2.1) (show (x.1, x.2) ∈ hs from hx), Option.bind_some])
      exact mul3 (by omega) (by omega) ld.1 (by omega)
    rw [tl]
    omega
  · have : LD (bdOf t s) t q = loadT (bdOf t s) q (.arm l r sl h hs) := by simp only [LD, e1]
    rw [this]
    omega
/-- a body that goes on -/
def Runs (r : Res (Flow × Env)) (Q : Env → Store → Prop) : Prop := ∃ fl σ' st', r = .ok (fl, σ') st' ∧ (fl = .nx ∨ fl = .cnt) ∧ Q σ' st'
theorem runs_congr {r r2 : Res (Flow × Env)} {Q : Env → Store → Prop} (h : r = r2) : Runs r Q = Runs r2 Q := by rw [h]
theorem runs_nx {σ : Env} {st : Store} {Q : Env → Store → Prop} (h : Q σ st) : Runs (.ok (.nx, σ) st) Q := ⟨.nx, σ, st, rfl, .inl rfl, h⟩
/-! ### pens -/
theorem g_tsub {o i : DE} {cs : CS} {v : PV} {σ : Env} {st : Store} : D.tsub o i cs v σ st = (o cs σ st).bind fun x st => (i cs σ st).bind fun y st => match D.store st x y v with | some st' => .ok σ st' | none => .bad := rfl
theorem deref_at {st : Store} {p : Nat} {xs : List PV} (h : st[p]? = some (.lst xs)) : deref st (.ref p) = .lst xs := by simp [deref, h]
theorem get_set {st : Store} {p : Nat} {x : PO} (h : p < st.length) : (st.set p x)[p]? = some x := by simp [h]
theorem store0 {st : Store} {p : Nat} {a b c v : PV} (h : st[p]? = some (.lst [a, b, c])) : D.store st (.ref p) (.int 0) v = some (st.set p (.lst [v, b, c])) := by simp [D.store, h, ixP]
theorem store1 {st : Store} {p : Nat} {a b c v : PV} (h : st[p]? = some (.lst [a, b, c])) : D.store st (.ref p) (.int 1) v = some (st.set p (.lst [a, v, c])) := by simp [D.store, h, ixP]
theorem store2 {st : Store} {p : Nat} {a b c v : PV} (h : st[p]? = some (.lst [a, b, c])) : D.store st (.ref p) (.int 2) v = some (st.set p (.lst [a, b, v])) := by simp [D.store, h, ixP]
theorem Step.at {p : Nat} {st st' : Store} (h : Step p st st') (a b c : Int) : Step p st (st'.set p (.lst [.int a, .int b, .int c])) := by
  refine ⟨⟨a, b, c, get_set h.pen.lt⟩, by simp; exact h.len, fun j hj hp => ?_⟩
  rw [List.getElem?_set_ne (Ne.symm hp)]
  exact h.keep j hj hp
theorem item0 (a b c : PV) : O.item (.lst [a, b, c]) (.int 0) = some a := rfl
theorem item1 (a b c : PV) : O.item (.lst [a, b, c]) (.int 1) = some b := rfl
theorem item2 (a b c : PV) : O.item (.lst [a, b, c]) (.int 2) = some c := rfl
theorem mulx_r {b : Int} (h : O.small b = true) (a : Int) : O.mulx (.int a) (.int b) = some (.int (a * b)) := by simp [O.mulx, O.mul, h]
theorem mod_ii {b : Int} (h : 0 < b) (a : Int) : O.mod (.int a) (.int b) = some (.int (a % b)) := by simp [O.mod, h]
theorem fdiv_ii {b : Int} (h : 0 < b) (h2 : b < 1073741824) (a : Int) : O.fdiv (.int a) (.int b) = some (.int (a / b)) := by simp [O.fdiv, h, h2]
theorem gt_ii (a b : Int) : O.gt (.int a) (.int b) = some (.bl (decide (b < a))) := rfl
theorem mod_in {a b : Int} (h : 0 < b) : 0 ≤ a % b ∧ a % b < b := ⟨Int.emod_nonneg a (by omega), Int.emod_lt_of_pos a h⟩
/-- a body that returns -/
def Rets (r : Res (Flow × Env)) (Q : PV → Store → Prop) : Prop := ∃ v σ' st', r = .ok (.ret v, σ') st' ∧ Q v st'
theorem rets {v : PV} {σ : Env} {st : Store} {Q : PV → Store → Prop} (h : Q v st) : Rets (.ok (.ret v, σ) st) Q := ⟨v, σ, st, rfl, h⟩
theorem fn_rets {tbl : Nat → Option FnD} {f np sz : Nat} {B : DS} (h : tbl f = some ⟨np, sz, false, B⟩) {n : Nat} {vs : List PV} {st : Store} (Q : PV → Store → Prop) (hl : vs.length.beq np = true) (hb : ∀ Q', (∀ v st', Q v st' → Q' v st') → Rets (B (callN tbl n) (start sz vs) st) Q') : ∃ v st', callN tbl (n + 1) f vs st = .ok v st' ∧ Q v st' := by
  obtain ⟨v, σ', st', e, q⟩ := hb Q fun _ _ h => h
  exact ⟨v, st', fn_imp h hl e rfl, q⟩
/-! ### sorting -/
section
variable {α : Type} (L : α → α → Bool)
def ins (x : α) : List α → List α
  | [] => [x]
  | y :: ys => if L y x then y :: ins x ys else x :: y :: ys
def isort : List α → List α
  | [] => []
  | x :: xs => ins L x (isort xs)
theorem ins_perm (x : α) : ∀ l, (ins L x l).Perm (x :: l)
  | [] => .refl _
  | y :: ys => by
    simp only [ins]
    split
    · exact ((ins_perm x ys).cons y).trans (.swap x y ys)
    · exact .refl _
theorem isort_perm : ∀ l, (isort L l).Perm l
  | [] => .refl _
  | x :: xs => (ins_perm L x _).trans ((isort_perm xs).cons x)
variable {L}
theorem ins_sorted {R : α → α → Prop} (h1 : ∀ x y, L y x = true → R y x) (h2 : ∀ x y, L y x = false → R x y) (tr : ∀ x y z, R x y → R y z → R x z) (x : α) : ∀ l, l.Pairwise R → (ins L x l).Pairwise R
  | [], _ => by simp [ins]
  | y :: ys, h => by
    rw [List.pairwise_cons] at h
    simp only [ins]
    split
    · rename_i e
      rw [List.pairwise_cons]
      refine ⟨fun z hz => ?_, ins_sorted h1 h2 tr x ys h.2⟩
      rcases List.mem_cons.mp ((ins_perm L x ys).mem_iff.mp hz) with e' | e'
      · subst e'; exact h1 _ _ e
      · exact h.1 z e'
    · rename_i e
      have e : L y x = false := by simpa using e
      rw [List.pairwise_cons]
      refine ⟨fun z hz => ?_, List.pairwise_cons.mpr h⟩
      rcases List.mem_cons.mp hz with e' | e'
      · subst e'; exact h2 _ _ e
      · exact tr _ _ _ (h2 _ _ e) (h.1 z e')
theorem isort_sorted {R : α → α → Prop} (h1 : ∀ x y, L y x = true → R y x) (h2 : ∀ x y, L y x = false → R x y) (tr : ∀ x y z, R x y → R y z → R x z) : ∀ l, (isort L l).Pairwise R
  | [] => .nil
  | x :: xs => ins_sorted h1 h2 tr x _ (isort_sorted h1 h2 tr xs)
theorem insB_map {f : α → PV} (h : ∀ a b, lt (f a) (f b) = L a b) (x : α) : ∀ l, sortP.insB (f x) (l.map f) = (ins L x l).map f
  | [] => rfl
  | y :: ys => by
    simp only [List.map_cons, sortP.insB, ins, h]
    split
    · simp [insB_map h x ys]
    · simp
theorem sortP_map {f : α → PV} (h : ∀ a b, lt (f a) (f b) = L a b) : ∀ l, sortP (l.map f) = (isort L l).map f
  | [] => rfl
  | x :: xs => by simp only [List.map_cons, sortP, isort, sortP_map h xs, insB_map h]
end
def lt2 (a b : Bead) : Bool := decide (a.1 < b.1) || (decide (a.1 = b.1) && decide (a.2 < b.2))
theorem lt_bpv (a b : Bead) : lt (bpv a) (bpv b) = lt2 a b := by
  obtain ⟨a1, a2⟩ := a
  obtain ⟨b1, b2⟩ := b
  simp only [bpv, lt, ltL, same, lt2]
  by_cases h1 : a1 = b1
  · subst h1
    by_cases h2 : a2 = b2
    · subst h2; simp
    · simp [h2]
  · simp [h1]
def sortB (bs : List Bead) : List Bead := isort lt2 bs
theorem sortP_beads (bs : List Bead) : sortP (bs.map bpv) = (sortB bs).map bpv := sortP_map lt_bpv bs
theorem sortB_perm (bs : List Bead) : (sortB bs).Perm bs := isort_perm _ _
theorem sortB_sorted (bs : List Bead) : Sorted2 (sortB bs) := by
  refine isort_sorted (R := fun a b => le2 a b = true) ?_ ?_ ?_ bs
  · intro x y h
    simp [lt2, le2] at h ⊢
    omega
  · intro x y h
    simp [lt2, le2] at h ⊢
    omega
  · intro x y z h g
    simp [le2] at h g ⊢
    omega
def ltI (a b : Int) : Bool := decide (a < b)
def sortI (l : List Int) : List Int := isort ltI l
theorem sortP_intsI (l : List Int) : sortP (l.map .int) = (sortI l).map .int := sortP_map (fun a b => by simp [lt, ltI]) l
theorem sortI_perm (l : List Int) : (sortI l).Perm l := isort_perm _ _
theorem sortI_rise {l : List Int} (nd : l.Nodup) : Rise (sortI l) := by
  have h : (sortI l).Pairwise (· ≤ ·) := by
    refine isort_sorted (R := (· ≤ ·)) ?_ ?_ (fun _ _ _ => Int.le_trans) l
    · intro x y h
      simp [ltI] at h
      omega
    · intro x y h
      simp [ltI] at h
      omega
  have n2 : (sortI l).Nodup := (sortI_perm l).nodup_iff.mpr nd
  exact (h.and n2).imp fun h => by omega
/-! ### what hangs -/
theorem popAt_ok {o e : DE} {c : CS} {σ : Env} {st st' : Store} {a : Nat} {i : Int} {xs : List PV} {y : PV} (h1 : o c σ st = .ok (.ref a) st) (h0 : ∃ zs, st[a]? = some (.lst zs)) (h2 : e c σ st = .ok (.int i) st') (h3 : st'[a]? = some (.lst xs)) (hi : 0 ≤ i) (hl : i < xs.length) (hx : xs.length < 1000000) (hy : xs[i.toNat]? = some y) : D.popAt o e c σ st = .ok y (st'.set a (.lst (xs.eraseIdx i.toNat))) := by
  obtain ⟨zs, h0⟩ := h0
  unfold D.popAt
  rw [h1]
  obtain ⟨z, hz⟩ := List.getElem?_eq_some_iff.mp hy
  simp [D.lstAt, h0, h2, h3, hi, hl, hx, hy, hz]
theorem store_dic {st : Store} {b : Nat} {k : Int} {v : PV} {kvs : List (PV × PV)} (h : st[b]? = some (.dic false kvs)) (hl : kvs.length < 1000000) : D.store st (.ref b) (.int k) v = some (st.set b (.dic false (put (.int k) v kvs))) := by
  simp [D.store, h, keyT, hl]
def rowsOf (R : List (Int × Th)) : List (PV × PV) := R.map fun x => (.int x.1, x.2.pv)
theorem rows_put {R : List (Int × Th)} {k : Int} (t : Th) (h : k ∉ R.map (·.1)) : put (.int k) t.pv (rowsOf R) = rowsOf (R ++ [(k, t)]) := by
  rw [put_new]
  · simp [rowsOf]
  · intro p hp
    obtain ⟨x, hx, rfl⟩ := List.mem_map.mp hp
    simp
    exact fun e => h (List.mem_map.mpr ⟨x, hx, e⟩)
theorem keysI_rows : ∀ R : List (Int × Th), O.keysI (rowsOf R) = some ((R.map (·.1)).map .int)
  | [] => rfl
  | x :: R => by
    have := keysI_rows R
    simp only [rowsOf] at this
    simp [rowsOf, O.keysI, this]
theorem sortedD_rows {R : List (Int × Th)} (h : R.length < 64) : O.sortedD (.dic false (rowsOf R)) = some (.lst ((sortI (R.map (·.1))).map .int)) := by
  have hl : (rowsOf R).length < 64 := by simpa [rowsOf] using h
  have e := sortP_intsI (R.map (·.1))
  rw [← e]
  simp [O.sortedD, hl, keysI_rows]
def lookD (k : Int) (R : List (Int × Th)) : Th := (look k R).getD (.w 1)
theorem look_ex {R : List (Int × Th)} {k : Int} (nd : (R.map (·.1)).Nodup) (h : k ∈ R.map (·.1)) : (k, lookD k R) ∈ R ∧ look k R = some (lookD k R) := by
  obtain ⟨x, hx, rfl⟩ := List.mem_map.mp h
  have e := look_mem nd (show (x.1, x.2) ∈ R from hx)
  have e2 : lookD x.1 R = x.2 := by simp [lookD, e]
  rw [e2]
  exact ⟨hx, e⟩
/-- the rows in order -/
def rowsUp (R : List (Int × Th)) : List (Int × Th) := (sortI (R.map (·.1))).map fun k => (k, lookD k R)
theorem rowsUp_perm {R : List (Int × Th)} (nd : (R.map (·.1)).Nodup) : (rowsUp R).Perm R := by
  have h := (sortI_perm (R.map (·.1))).map fun k => (k, lookD k R)
  have e : (R.map (·.1)).map (fun k => (k, lookD k R)) = R := by
    rw [List.map_map]
    conv => rhs; rw [← List.map_id R]
    refine List.map_congr_left fun x hx => ?_
    have e := look_mem nd (show (x.1, x.2) ∈ R from hx)
    simp [lookD, e]
  rw [e] at h
  exact h
theorem rowsUp_fst (R : List (Int × Th)) : (rowsUp R).map (·.1) = sortI (R.map (·.1)) := by
  simp [rowsUp, Function.comp_def]
def cnt (t : Th) : Nat := t.paths.length
theorem cnt_arm (l r s h hs) : cnt (.arm l r s h hs) = 1 + (hs.map fun x => cnt x.2).sum := by
  unfold cnt
  rw [paths_arm, List.length_cons, List.length_flatMap]
  simp [Nat.add_comm]
theorem cnt_rows {R : List (Int × Th)} (nd : (R.map (·.1)).Nodup) : ((rowsUp R).map fun x => cnt x.2).sum = ((R.map (·.2)).map cnt).sum := by
  rw [((rowsUp_perm nd).map _).sum_nat, List.map_map]
  rfl
theorem cnt_take (ts : List Th) (k : Nat) : ((ts.take k).map cnt).sum ≤ (ts.map cnt).sum := by
  conv => rhs; rw [← List.take_append_drop k ts]
  rw [List.map_append, List.sum_append]
  omega
/-- the places of an arm, its ends first -/
def spots (l r : Int) : List Int := (0 - l) :: r :: (List.range (r - (1 - l)).toNat).map fun i : Nat => 1 - l + (i : Int)
theorem spots_len {l r : Int} (hl : 1 ≤ l ∧ l ≤ 3) (hr : 1 ≤ r ∧ r ≤ 3) : (spots l r).length ≤ 7 ∧ 3 ≤ (spots l r).length := by
  simp [spots]
  omega
theorem spots_in {l r : Int} (hl : 1 ≤ l) (hr : 1 ≤ r) : ∀ x ∈ spots l r, -l ≤ x ∧ x ≤ r := by
  intro x hx
  simp only [spots, List.mem_cons, List.mem_map, List.mem_range] at hx
  rcases hx with rfl | rfl | ⟨i, hi, rfl⟩ <;> omega
theorem spots_nodup {l r : Int} (hl : 1 ≤ l) (hr : 1 ≤ r) : (spots l r).Nodup := by
  simp only [spots, List.nodup_cons, List.mem_cons, List.mem_map, List.mem_range]
  refine ⟨?_, ?_, ?_⟩
  · rintro (e | ⟨i, hi, e⟩) <;> omega
  · rintro ⟨i, hi, e⟩
    omega
  · refine List.Pairwise.map _ (R := (· ≠ ·)) (fun a b h => by omega) ?_
    exact List.nodup_range
theorem erase_perm : ∀ {S : List Int} {i : Nat} (h : i < S.length), (S.eraseIdx i ++ [S[i]]).Perm S
  | [], _, h => by simp at h
  | x :: S, 0, _ => by
    simp
  | x :: S, i + 1, h => by
    simp only [List.eraseIdx_cons_succ, List.getElem_cons_succ, List.cons_append]
    exact (erase_perm (by simpa using h)).cons x
theorem cut_1 (a : PV) (r : List PV) : O.cut (a :: r) (some 1) none = r := cut1 (a :: r)
theorem cut_3 (a b c : PV) (r : List PV) : O.cut (a :: b :: c :: r) (some 3) none = r := by
  have := cut_drop (a :: b :: c :: r) 3 (by simp)
  simpa using this
theorem cut_23 (a b c : PV) (r : List PV) : O.cut (a :: b :: c :: r) (some 2) (some 3) = [c] := by
  have e1 : min (2 : Nat) (r.length + 1 + 1 + 1) = 2 := by omega
  have e2 : min (3 : Nat) (r.length + 1 + 1 + 1) = 3 := by omega
  simp [O.cut, O.sIx, e1, e2]
theorem item_lst0 (a : PV) (r : List PV) : O.item (.lst (a :: r)) (.int 0) = some a := getL_nat (xs := a :: r) (i := 0) rfl
theorem item_lst1 (a b : PV) (r : List PV) : O.item (.lst (a :: b :: r)) (.int 1) = some b := getL_nat (xs := a :: b :: r) (i := 1) rfl
def Lone (t : Th) : Prop := ∃ l r s h, t = .arm l r s h [] ∧ Ok 1 t
theorem Lone.cnt {t : Th} (h : Lone t) : cnt t = 1 := by
  obtain ⟨l, r, s, h, rfl, _⟩ := h
  simp [cnt_arm]
theorem cnt_w (n : Int) : cnt (.w n) = 0 := by simp [Dn.cnt, paths_w]
theorem sum_same {α : Type} {f : α → Nat} {k : Nat} : ∀ (M : List α), (∀ x ∈ M, f x = k) → (M.map f).sum = M.length * k
  | [], _ => by simp
  | x :: M, h => by
    rw [List.map_cons, List.sum_cons, sum_same M fun y hy => h y (List.mem_cons_of_mem _ hy), h x List.mem_cons_self, List.length_cons, Nat.add_mul]
    omega
theorem zip_all {α β : Type} {Q : α → β → Prop} {P : β → Prop} (h : ∀ a b, Q a b → P b) : ∀ {M : List α} {zs : List β}, zs.length = M.length → (∀ xz ∈ M.zip zs, Q xz.1 xz.2) → ∀ z ∈ zs, P z
  | [], [], _, _, z, hz => by cases hz
  | [], _ :: _, e, _, _, _ => by simp at e
  | _ :: _, [], _, _, z, hz => by cases hz
  | a :: M, b :: zs, e, hq, z, hz => by
    rcases List.mem_cons.mp hz with e' | e'
    · subst e'; exact h a _ (hq (a, z) List.mem_cons_self)
    · exact zip_all h (M := M) (zs := zs) (by simpa using e) (fun xz hx => hq xz (List.mem_cons_of_mem _ hx)) z e'
theorem walk_lst' {a : DE} {cs : CS} {σ : Env} {st st1 : Store} {xs : List PV} (h : a cs σ st = .ok (.lst xs) st1) : D.walk a cs σ st = .ok (xs, none) st1 := by rw [i_walk, h]; rfl
theorem ne_str {x : Str} (h : sg x = true) : O.ne (.str x) (.str x) = some (.bl false) := by
  have h : signsOk x.cps.toList = true := h
  simp [O.ne, eqP, flat, eqv, h]
/-- nothing on an arm -/
theorem bare_ok {t : Th} (g : GoodArm t) : GoodSt t (List.replicate t.paths.length []) := by
  refine ⟨by simp, ?_⟩
  intro x hx
  have h1 := (List.of_mem_zip hx).1
  have h2 := (List.of_mem_zip hx).2
  have h3 : x.2 = [] := List.eq_of_mem_replicate h2
  obtain ⟨l, r, s, h, hs, e1, e2⟩ := sub_paths 3 t g.ok _ h1
  refine ⟨l, r, s, h, hs, e1, e2, ?_⟩
  rw [h3]
  have := e2.2.2.2.1
  exact ⟨by simp; omega, by simp, .nil⟩
theorem arm_pos {t : Th} (g : GoodArm t) : 1 ≤ t.paths.length := by
  cases t with
  | w n => cases g.a
  | arm l r s h hs => rw [paths_arm]; simp
theorem bare_pv {t : Th} (g : GoodArm t) : O.mulx (.tup [.tup []]) (.int t.paths.length) = some (spv (List.replicate t.paths.length [])) := by
  have h1 := arm_pos g
  have h2 := g.few
  generalize t.paths.length = k at h1 h2
  have : k = 1 ∨ k = 2 ∨ k = 3 ∨ k = 4 := by omega
  rcases this with rfl | rfl | rfl | rfl <;> rfl
theorem runs_intro {r : Res (Flow × Env)} {Q : Env → Store → Prop} (h : ∀ Q', (∀ σ st, Q σ st → Q' σ st) → Runs r Q') : Runs r Q := h Q fun _ _ h => h
end Dn

/-! A beat: plain Lean. -/
namespace Dn
open PySem
def sBy : Str := ⟨#[98, 121]⟩
def stp (w : Str) : Int := if w = sLeft then -1 else if w = sRight then 1 else 0
def IsW (w : Str) : Prop := w = sLeft ∨ w = sLevel ∨ w = sRight
theorem word_is (sl T : Int) : IsW (wordS sl T) := by
  unfold wordS IsW
  split
  · simp
  · split <;> simp
theorem WD_is (bd A q) : IsW (WD bd A q) := by
  unfold WD
  split
  · exact word_is _ _
  · exact .inr (.inl rfl)
@[simp] theorem stp_l : stp sLeft = -1 := by decide +kernel
@[simp] theorem stp_v : stp sLevel = 0 := by decide +kernel
@[simp] theorem stp_r : stp sRight = 1 := by decide +kernel
def mv (k : Int) (b : Bead) : Bead := (b.1 + k, b.2)
def inB (l r : Int) (b : Bead) : Bool := decide (-l ≤ b.1) && decide (b.1 ≤ r)
theorem inB_iff {l r : Int} {b : Bead} : inB l r b = true ↔ -l ≤ b.1 ∧ b.1 ≤ r := by simp [inB]
theorem inB_not {l r : Int} {b : Bead} : inB l r b = false ↔ ¬(-l ≤ b.1 ∧ b.1 ≤ r) := by
  rw [← inB_iff]
  simp
@[simp] theorem mv_1 (k : Int) (b : Bead) : (mv k b).1 = b.1 + k := rfl
def stay (l r k : Int) (bs : List Bead) : List Bead := (bs.map (mv k)).filter (inB l r)
def off (l r k : Int) (bs : List Bead) : List Int := ((bs.map (mv k)).filter fun b => !inB l r b).map (·.2)
def lastP (l r : Int) (w : Str) : Int := if w = sLeft then -l else r
theorem stay_law {l r k last : Int} {bs : List Bead} (hk : k = 0 ∨ (k = -1 ∧ last = -l) ∨ (k = 1 ∧ last = r)) (h : ∀ b ∈ bs, -l ≤ b.1 ∧ b.1 ≤ r) : ((bs.filter fun b => decide (k = 0) || !decide (b.1 = last)).map (mv k)) = stay l r k bs := by
  unfold stay
  rw [List.filter_map]
  congr 1
  refine List.filter_congr fun b hb => ?_
  have := h b hb
  rw [Bool.eq_iff_iff]
  rcases hk with rfl | ⟨rfl, rfl⟩ | ⟨rfl, rfl⟩
  · simp [Function.comp, inB_iff, inB_not]
    try omega
  · simp [Function.comp, inB_iff, inB_not]
    try omega
  · simp [Function.comp, inB_iff, inB_not]
    try omega
theorem off_law {l r k last : Int} {bs : List Bead} (hk : k = 0 ∨ (k = -1 ∧ last = -l) ∨ (k = 1 ∧ last = r)) (h : ∀ b ∈ bs, -l ≤ b.1 ∧ b.1 ≤ r) : ((bs.filter fun b => !decide (k = 0) && decide (b.1 = last)).map (·.2)) = off l r k bs := by
  unfold off
  rw [List.filter_map, List.map_map]
  have e : ((fun x : Bead => x.2) ∘ mv k) = fun x => x.2 := rfl
  rw [e]
  congr 1
  refine List.filter_congr fun b hb => ?_
  have := h b hb
  rw [Bool.eq_iff_iff]
  rcases hk with rfl | ⟨rfl, rfl⟩ | ⟨rfl, rfl⟩
  · simp [Function.comp, inB_iff, inB_not]
    try omega
  · simp [Function.comp, inB_iff, inB_not]
    try omega
  · simp [Function.comp, inB_iff, inB_not]
    try omega
theorem off_level {l r : Int} {bs : List Bead} (h : ∀ b ∈ bs, -l ≤ b.1 ∧ b.1 ≤ r) : off l r 0 bs = [] := by
  unfold off
  rw [List.map_eq_nil_iff, List.filter_eq_nil_iff]
  intro b hb
  obtain ⟨a, ha, rfl⟩ := List.mem_map.mp hb
  have := h a ha
  simp [inB, mv]
  omega
def catch_ (h : Int) : List Int → List Bead → List Int → List Bead × List Int
  | [], b, g => (b, g)
  | w :: ws, b, g => if (b.length : Int) < h then catch_ h ws (b ++ [(0, w)]) g else catch_ h ws b (g ++ [w])
theorem catch_split (h : Int) : ∀ (ws : List Int) (b : List Bead) (g : List Int), catch_ h ws b g = ((catch_ h ws b []).1, g ++ (catch_ h ws b []).2)
  | [], b, g => by simp [catch_]
  | w :: ws, b, g => by
    simp only [catch_]
    split
    · exact catch_split h ws _ g
    · rw [catch_split h ws b (g ++ [w]), catch_split h ws b ([] ++ [w])]
      simp
theorem catch_len {h : Int} : ∀ (ws : List Int) (b : List Bead) (g : List Int), (b.length : Int) ≤ h → ((catch_ h ws b g).1.length : Int) ≤ h
  | [], b, g, e => e
  | w :: ws, b, g, e => by
    simp only [catch_]
    split
    · exact catch_len ws _ g (by simp; omega)
    · exact catch_len ws b _ e
theorem catch_mem {h : Int} : ∀ (ws : List Int) (b : List Bead) (g : List Int), ∀ x ∈ (catch_ h ws b g).1, x ∈ b ∨ ∃ w ∈ ws, x = (0, w)
  | [], b, g, x, hx => .inl hx
  | w :: ws, b, g, x, hx => by
    simp only [catch_] at hx
    split at hx
    · rcases catch_mem ws _ g x hx with e | ⟨w', h1, h2⟩
      · rcases List.mem_append.mp e with e | e
        · exact .inl e
        · exact .inr ⟨w, List.mem_cons_self, by simpa using e⟩
      · exact .inr ⟨w', List.mem_cons_of_mem _ h1, h2⟩
    · rcases catch_mem ws b _ x hx with e | ⟨w', h1, h2⟩
      · exact .inl e
      · exact .inr ⟨w', List.mem_cons_of_mem _ h1, h2⟩
theorem catch_gone {h : Int} : ∀ (ws : List Int) (b : List Bead) (g : List Int), (catch_ h ws b g).2.length ≤ g.length + ws.length ∧ ∀ x ∈ (catch_ h ws b g).2, x ∈ g ∨ x ∈ ws
  | [], b, g => by simp [catch_]
  | w :: ws, b, g => by
    simp only [catch_]
    split
    · obtain ⟨h1, h2⟩ := catch_gone (h := h) ws (b ++ [(0, w)]) g
      exact ⟨by simp; omega, fun x hx => (h2 x hx).imp id (List.mem_cons_of_mem _)⟩
    · obtain ⟨h1, h2⟩ := catch_gone (h := h) ws b (g ++ [w])
      refine ⟨by simp at h1 ⊢; omega, fun x hx => ?_⟩
      rcases h2 x hx with e | e
      · rcases List.mem_append.mp e with e | e
        · exact .inl e
        · exact .inr (by simp at e; simp [e])
      · exact .inr (List.mem_cons_of_mem _ e)
/-! ### the beat of an arm -/
section
variable (t : Th) (s : Stand) (falls : List Int)
def wdQ (q : Path) : Str := WD (bdOf t s) t q
def limQ (q : Path) : Int × Int × Int := match t.sub q with | some (.arm l r _ h _) => (l, r, h) | _ => (0, 0, 0)
def kQ (q : Path) : Int := stp (wdQ t s q)
def stQ (q : Path) : List Bead := stay (limQ t q).1 (limQ t q).2.1 (kQ t s q) (bdOf t s q)
def offQ (q : Path) : List Int := off (limQ t q).1 (limQ t q).2.1 (kQ t s q) (bdOf t s q)
def belQ (q : Path) : Path := q ++ [lastP (limQ t q).1 (limQ t q).2.1 (wdQ t s q)]
def comeQ (q : Path) : List Int := if q = [] then falls else t.paths.flatMap fun p => if belQ t s p = q then offQ t s p else []
def finQ (q : Path) : List Bead × List Int := catch_ (limQ t q).2.2 (sortI (comeQ t s falls q)) (stQ t s q) []
abbrev Gone := Path × Str × Int
def goneA (P : List Path) : List Gone := P.flatMap fun q => if belQ t s q ∈ t.paths then [] else (offQ t s q).map fun w => (q, wdQ t s q, w)
def goneB (P : List Path) : List Gone := P.flatMap fun q => (finQ t s falls q).2.map fun w => (q, sBy, w)
def gpv (x : Gone) : PV := .tup [ppv x.1, .str x.2.1, .int x.2.2]
def ltG (a b : Gone) : Bool := lt (gpv a) (gpv b)
def newS : Stand := t.paths.map fun q => sortB (finQ t s falls q).1
def bins : List Gone := isort ltG (goneA t s t.paths ++ goneB t s falls t.paths)
def beatPV : PV := .tup [spv (newS t s falls), .tup ((bins t s falls).map gpv)]
end
theorem bel_inj {t : Th} {s : Stand} {p q : Path} (h : belQ t s p = belQ t s q) : p = q := (List.append_inj' h rfl).1
theorem come_find (t : Th) (s : Stand) (c : Path → Bool) (q : Path) : ∀ {P : List Path}, P.Nodup → (∀ p ∈ P, belQ t s p = q → c p = false → offQ t s p = []) →
    (find (ppv q) ((P.filter c).map fun p => (ppv (belQ t s p), PV.lst ((offQ t s p).map .int)))).getD (.lst []) = .lst ((P.flatMap fun p => if belQ t s p = q then offQ t s p else []).map .int)
  | [], _, _ => by simp [find]
  | p :: P, nd, h => by
    rw [List.nodup_cons] at nd
    have ih := come_find t s c q nd.2 fun p' hp => h p' (List.mem_cons_of_mem _ hp)
    by_cases e : belQ t s p = q
    · have none' : (P.flatMap fun p => if belQ t s p = q then offQ t s p else []) = [] := by
        rw [List.flatMap_eq_nil_iff]
        intro p' hp'
        rw [if_neg]
        intro e'
        exact nd.1 (bel_inj (e.trans e'.symm) ▸ hp')
      rw [List.flatMap_cons, if_pos e, none', List.append_nil]
      rw [none'] at ih
      cases hc : c p with
      | true => simp [List.filter_cons, hc, find, e]
      | false =>
        rw [h p List.mem_cons_self e hc]
        simp only [List.filter_cons, hc]
        exact ih
    · rw [List.flatMap_cons, if_neg e, List.nil_append, ← ih]
      cases hc : c p with
      | true => simp [List.filter_cons, hc, find, e]
      | false => simp [List.filter_cons, hc]
structure FallsOk (f : List Int) : Prop where
  len : f.length ≤ 3
  ok : ∀ x ∈ f, 1 ≤ x ∧ x ≤ 3
  up : f.Pairwise (· ≤ ·)
section
variable {t : Th} {s : Stand} {falls : List Int}
theorem info (g : GoodArm t) (gs : GoodSt t s) {q : Path} (hq : q ∈ t.paths) : ∃ l r sl h hs, t.sub q = some (.arm l r sl h hs) ∧ Ok 3 (.arm l r sl h hs) ∧ BeadsOk l r h (bdOf t s q) ∧ limQ t q = (l, r, h) := by
  obtain ⟨l, r, sl, h, hs, e1, e2, e3⟩ := bd_ok g gs hq
  exact ⟨l, r, sl, h, hs, e1, e2, e3, by simp only [limQ, e1]⟩
theorem off_ok (g : GoodArm t) (gs : GoodSt t s) {q : Path} (hq : q ∈ t.paths) : (offQ t s q).length ≤ 3 ∧ ∀ w ∈ offQ t s q, 1 ≤ w ∧ w ≤ 3 := by
  obtain ⟨l, r, sl, h, hs, e1, e2, e3, e4⟩ := info g gs hq
  have b3 := (bd_small g gs hq).1
  constructor
  · simp only [offQ, off, List.length_map]
    refine Nat.le_trans (List.length_filter_le _ _) ?_
    simpa using b3
  · intro w hw
    simp only [offQ, off] at hw
    obtain ⟨b, hb, rfl⟩ := List.mem_map.mp hw
    obtain ⟨b', hb', rfl⟩ := List.mem_map.mp (List.mem_filter.mp hb).1
    exact (e3.ok b' hb').2
theorem come_ok (g : GoodArm t) (gs : GoodSt t s) (gf : FallsOk falls) (q : Path) : (comeQ t s falls q).length ≤ 12 ∧ ∀ w ∈ comeQ t s falls q, 1 ≤ w ∧ w ≤ 3 := by
  unfold comeQ
  split
  · exact ⟨by have := gf.len; omega, gf.ok⟩
  · constructor
    · rw [List.length_flatMap]
      have k : ∀ P : List Path, (∀ p ∈ P, p ∈ t.paths) → (P.map fun p => (if belQ t s p = q then offQ t s p else []).length).sum ≤ P.length * 3 := by
        intro P hP
        induction P with
        | nil => simp
        | cons p P ih =>
          have := ih fun p hp => hP p (List.mem_cons_of_mem _ hp)
          have := (off_ok g gs (hP p List.mem_cons_self)).1
          simp only [List.map_cons, List.sum_cons, List.length_cons]
          split <;> simp <;> omega
      have := k t.paths fun _ h => h
      have := g.few
      omega
    · intro w hw
      obtain ⟨p, hp, hw⟩ := List.mem_flatMap.mp hw
      split at hw
      · exact (off_ok g gs hp).2 w hw
      · cases hw
theorem newS_ok (g : GoodArm t) (gs : GoodSt t s) (gf : FallsOk falls)  : GoodSt t (newS t s falls) := by
  refine ⟨by simp [newS], ?_⟩
  intro x hx
  have hq := (List.of_mem_zip hx).1
  have e : x.2 = sortB (finQ t s falls x.1).1 := by
    obtain ⟨i, hi, rfl⟩ := List.mem_iff_getElem.mp hx
    simp [newS]
  obtain ⟨l, r, sl, h, hs, e1, e2, e3, e4⟩ := info g gs hq
  refine ⟨l, r, sl, h, hs, e1, e2, ?_⟩
  have l3 := e2.1
  have r3 := e2.2.1
  rw [e]
  refine ⟨?_, ?_, sortB_sorted _⟩
  · rw [(sortB_perm _).length_eq]
    simp only [finQ, e4]
    refine catch_len _ _ _ ?_
    have := e3.len
    have k : (stQ t s x.1).length ≤ (bdOf t s x.1).length := by
      simp only [stQ, stay]
      refine Nat.le_trans (List.length_filter_le _ _) ?_
      simp
    omega
  · intro b hb
    have hb := (sortB_perm _).mem_iff.mp hb
    rcases catch_mem _ _ _ b hb with z | ⟨w, hw, rfl⟩
    · simp only [stQ, stay, e4] at z
      obtain ⟨z1, z2⟩ := List.mem_filter.mp z
      obtain ⟨b', hb', rfl⟩ := List.mem_map.mp z1
      have z2 := inB_iff.mp z2
      exact ⟨z2, (e3.ok b' hb').2⟩
    · have := (come_ok g gs gf x.1).2 w ((sortI_perm _).mem_iff.mp hw)
      simp only
      omega
theorem goneA_ok (g : GoodArm t) (gs : GoodSt t s)  : ∀ P : List Path, (∀ p ∈ P, p ∈ t.paths) → (goneA t s P).length ≤ P.length * 3 ∧ ∀ x ∈ goneA t s P, x.1 ∈ t.paths ∧ IsW x.2.1 ∧ 1 ≤ x.2.2 ∧ x.2.2 ≤ 3
  | [], _ => by simp [goneA]
  | p :: P, h => by
    obtain ⟨h1, h2⟩ := goneA_ok g gs P fun q hq => h q (List.mem_cons_of_mem _ hq)
    have hp := h p List.mem_cons_self
    have of := off_ok g gs hp
    have e : goneA t s (p :: P) = (if belQ t s p ∈ t.paths then [] else (offQ t s p).map fun w => (p, wdQ t s p, w)) ++ goneA t s P := by simp [goneA]
    rw [e]
    refine ⟨?_, fun x hx => ?_⟩
    · rw [List.length_append, List.length_cons]
      split <;> simp <;> omega
    · rcases List.mem_append.mp hx with z | z
      · split at z
        · cases z
        · obtain ⟨w, hw, rfl⟩ := List.mem_map.mp z
          exact ⟨hp, WD_is _ _ _, of.2 w hw⟩
      · exact h2 x z
theorem goneB_ok (g : GoodArm t) (gs : GoodSt t s) (gf : FallsOk falls)  : ∀ P : List Path, (∀ p ∈ P, p ∈ t.paths) → (goneB t s falls P).length ≤ P.length * 12 ∧ ∀ x ∈ goneB t s falls P, x.1 ∈ t.paths ∧ x.2.1 = sBy ∧ 1 ≤ x.2.2 ∧ x.2.2 ≤ 3
  | [], _ => by simp [goneB]
  | p :: P, h => by
    obtain ⟨h1, h2⟩ := goneB_ok g gs gf P fun q hq => h q (List.mem_cons_of_mem _ hq)
    have hp := h p List.mem_cons_self
    have co := come_ok g gs gf p
    have ca := catch_gone (h := (limQ t p).2.2) (sortI (comeQ t s falls p)) (stQ t s p) []
    rw [(sortI_perm _).length_eq] at ca
    have e : goneB t s falls (p :: P) = ((finQ t s falls p).2.map fun w => (p, sBy, w)) ++ goneB t s falls P := by simp [goneB]
    rw [e]
    refine ⟨?_, fun x hx => ?_⟩
    · have : (finQ t s falls p).2.length ≤ 12 := by
        have := ca.1
        simp only [finQ]
        simp at this
        omega
      rw [List.length_append, List.length_cons, List.length_map]
      omega
    · rcases List.mem_append.mp hx with z | z
      · obtain ⟨w, hw, rfl⟩ := List.mem_map.mp z
        have := (ca.2 w hw).resolve_left (by simp)
        exact ⟨hp, rfl, co.2 w ((sortI_perm _).mem_iff.mp this)⟩
      · exact h2 x z
theorem shown_isW {w : Str} (h : IsW w ∨ w = sBy) : Shown 0 20 (.str w) := by
  rcases h with (rfl | rfl | rfl) | rfl
  · exact (Shown.str (by decide +kernel) (by decide +kernel)).mono (by omega) (by decide +kernel)
  · exact (Shown.str (by decide +kernel) (by decide +kernel)).mono (by omega) (by decide +kernel)
  · exact (Shown.str (by decide +kernel) (by decide +kernel)).mono (by omega) (by decide +kernel)
  · exact (Shown.str (by decide +kernel) (by decide +kernel)).mono (by omega) (by decide +kernel)
theorem path_small : ∀ (d : Nat) (t : Th), Ok d t → ∀ q ∈ t.paths, ∀ p ∈ q, -3 ≤ p ∧ p ≤ 3
  | d, .w n, _, q, hq => by rw [paths_w] at hq; cases hq
  | 0, .arm _ _ _ _ _, h, _, _ => (show False from h).elim
  | d + 1, .arm l r s h hs, ok, q, hq => by
    intro p hp
    have l3 := ok.1
    have r3 := ok.2.1
    rw [paths_arm] at hq
    rcases List.mem_cons.mp hq with e | e
    · subst e; cases hp
    · obtain ⟨x, hx, e⟩ := List.mem_flatMap.mp e
      obtain ⟨q', hq', rfl⟩ := List.mem_map.mp e
      have z := ok.2.2.2.2.2 x hx
      rcases List.mem_cons.mp hp with e | e
      · subst e; omega
      · exact path_small d x.2 z.2 q' hq' p e
theorem bins_ok (g : GoodArm t) (gs : GoodSt t s) (gf : FallsOk falls)  : (bins t s falls).length ≤ 60 ∧ ∀ x ∈ bins t s falls, x.1 ∈ t.paths ∧ (IsW x.2.1 ∨ x.2.1 = sBy) ∧ 1 ≤ x.2.2 ∧ x.2.2 ≤ 3 := by
  have a := goneA_ok g gs t.paths fun _ h => h
  have b := goneB_ok g gs gf t.paths fun _ h => h
  have few := g.few
  constructor
  · unfold bins
    rw [(isort_perm _ _).length_eq, List.length_append]
    omega
  · intro x hx
    have hx := (isort_perm _ _).mem_iff.mp hx
    rcases List.mem_append.mp hx with z | z
    · have := a.2 x z; exact ⟨this.1, .inl this.2.1, this.2.2⟩
    · have := b.2 x z; exact ⟨this.1, .inr this.2.1, this.2.2⟩
theorem shown_gone (g : GoodArm t) {x : Gone} (h : x.1 ∈ t.paths ∧ (IsW x.2.1 ∨ x.2.1 = sBy) ∧ 1 ≤ x.2.2 ∧ x.2.2 ≤ 3) : Shown 2 120 (gpv x) := by
  have pl := path_len 3 t g.ok _ h.1
  have p1 : Shown 1 48 (ppv x.1) := Shown.map (n := 3) (B := 13) x.1 (fun p hp => Shown.int (by have := path_small 3 t g.ok _ h.1 p hp; omega)) pl
  exact (p1.cons (((shown_isW h.2.1).mono (k' := 1) (B' := 20) (by omega) (by omega)).cons (((Shown.int (i := x.2.2) (by omega)).mono (k' := 1) (B' := 13) (by omega) (by omega)).cons Shown.nil))).mono (by omega) (by omega)
theorem shown_beat (g : GoodArm t) (gs : GoodSt t s) (gf : FallsOk falls)  : Shown 20 20000 (beatPV t s falls) := by
  have b := bins_ok g gs gf
  have h1 := (shown_spv g (newS_ok g gs gf)).mono (k' := 3) (B' := 443) (by omega) (by omega)
  have h2 : Shown 3 (60 * (120 + 2) + 3) (.tup ((bins t s falls).map gpv)) := Shown.map _ (fun x hx => shown_gone g (b.2 x hx)) b.1
  exact (h1.cons (h2.cons Shown.nil)).mono (by omega) (by omega)
end
theorem plain_gpv (x : Gone) : plain (gpv x) = true := by simp [gpv]
theorem plainL_gpv (M : List Gone) : plainL (M.map gpv) = true := plainL_map plain_gpv M
@[simp] theorem plain_beat (t s f) : plain (beatPV t s f) = true := by simp [beatPV, plainL_gpv]
theorem has_gpv (x : Gone) : has (.three (.row .int) .str .int) (gpv x) = true := by
  have := has_ppv x.1
  simp [gpv, has, this]
theorem sort_gone (M : List Gone) : sortP (M.map gpv) = (isort ltG M).map gpv := sortP_map (fun _ _ => rfl) M
/-! ### dicts by paths -/
theorem in_pathsL (L : List Path) (q : Path) : O.in (ppv q) (.lst (L.map ppv)) = some (.bl (decide (q ∈ L))) := by
  simp only [O.in, O.inB, flat_ppv 58 q, flatL_ppv 58 L, Bool.and_self, if_true, Option.map_some, Option.some.injEq, PV.bl.injEq, List.any_map]
  rw [Bool.eq_iff_iff]
  simp
def stK (F : Path → List Bead) (P : List Path) : List (PV × PV) := P.map fun q => (ppv q, PV.lst ((F q).map bpv))
def cmR (t : Th) (s : Stand) (c : Path → Bool) (P : List Path) : List (PV × PV) := (P.filter c).map fun p => (ppv (belQ t s p), PV.lst ((offQ t s p).map .int))
def cmK (t : Th) (s : Stand) (falls : List Int) (c : Path → Bool) (P : List Path) : List (PV × PV) := (ppv [], PV.lst (falls.map .int)) :: cmR t s c P
theorem stK_len (F P) : (stK F P).length = P.length := by simp [stK]
theorem cmK_len (t s f c P) : (cmK t s f c P).length ≤ P.length + 1 := by
  simp only [cmK, cmR, List.length_cons, List.length_map]
  have := List.length_filter_le c P
  omega
theorem stK_put {F : Path → List Bead} {P : List Path} {q : Path} (h : q ∉ P) : put (ppv q) (.lst ((F q).map bpv)) (stK F P) = stK F (P ++ [q]) := by
  rw [put_new]
  · simp [stK]
  · intro p hp
    obtain ⟨x, hx, rfl⟩ := List.mem_map.mp hp
    simp
    exact fun e => h (e ▸ hx)
theorem stK_find {F : Path → List Bead} {P : List Path} (nd : P.Nodup) {q : Path} (h : q ∈ P) : find (ppv q) (stK F P) = some (.lst ((F q).map bpv)) :=
  find_map ppv (fun q => PV.lst ((F q).map bpv)) P (nodup_pp nd) q h (by simp)
def updF (F : Path → List Bead) (q : Path) (b : List Bead) : Path → List Bead := fun p => if p = q then b else F p
theorem stK_upd {F : Path → List Bead} {P : List Path} {q : Path} (h : q ∈ P) (b : List Bead) : put (ppv q) (.lst (b.map bpv)) (stK F P) = stK (updF F q b) P := by
  unfold put
  rw [if_pos]
  · simp only [stK, List.map_map]
    refine List.map_congr_left fun p _ => ?_
    simp only [Function.comp, eqv_ppv, updF]
    by_cases e : p = q <;> simp [e]
  · rw [List.any_eq_true]
    exact ⟨_, List.mem_map.mpr ⟨q, h, rfl⟩, by simp⟩
theorem cmK_put {t : Th} {s : Stand} {falls : List Int} {c : Path → Bool} {P : List Path} {q : Path} (h : q ∉ P) (hc : c q = true) : put (ppv (belQ t s q)) (.lst ((offQ t s q).map .int)) (cmK t s falls c P) = cmK t s falls c (P ++ [q]) := by
  rw [put_new]
  · simp [cmK, cmR, hc]
  · intro p hp
    rcases List.mem_cons.mp hp with e | e
    · subst e; simp [belQ]
    · obtain ⟨x, hx, rfl⟩ := List.mem_map.mp e
      simp
      exact fun e => h (bel_inj e ▸ (List.mem_filter.mp hx).1)
theorem cmK_skip {t : Th} {s : Stand} {falls : List Int} {c : Path → Bool} {P : List Path} {q : Path} (hc : c q = false) : cmK t s falls c P = cmK t s falls c (P ++ [q]) := by
  simp [cmK, cmR, hc]
theorem cmK_find {t : Th} {s : Stand} {falls : List Int} {c : Path → Bool} (nd : t.paths.Nodup) {q : Path} (h : ∀ p ∈ t.paths, belQ t s p = q → c p = false → offQ t s p = []) : (find (ppv q) (cmK t s falls c t.paths)).getD (.lst []) = .lst ((comeQ t s falls q).map .int) := by
  unfold comeQ
  by_cases e : q = []
  · subst e; simp [cmK, find]
  · have e' : ¬ ([] : Path) = q := fun z => e z.symm
    rw [if_neg e]
    simp only [cmK, find, eqv_ppv, decide_eq_true_eq, e', if_false]
    exact come_find t s c q nd h
theorem get2_ok {o k d : DE} {c : CS} {σ : Env} {st : Store} {b : Nat} {y z : PV} {u : Bool} {kvs : List (PV × PV)} (h1 : o c σ st = .ok (.ref b) st) (h2 : st[b]? = some (.dic u kvs)) (h3 : k c σ st = .ok y st) (h4 : d c σ st = .ok z st) (h5 : keyT u y = true) : D.get2 o k d c σ st = .ok ((find y kvs).getD z) st := by
  unfold D.get2
  rw [h1]
  simp [D.dicAt, deref, h2, h3, h4, h5]
theorem eqW {w : Str} (h : IsW w) : O.eq (.str w) (.str ⟨#[108, 101, 102, 116]⟩) = some (.bl (decide (w = sLeft))) := by
  have e1 : decide (sLevel = sLeft) = false := by decide +kernel
  have e2 : decide (sRight = sLeft) = false := by decide +kernel
  have e3 : decide (sLeft = sLeft) = true := by simp
  rcases h with rfl | rfl | rfl
  · rw [e3]; rfl
  · rw [e1]; rfl
  · rw [e2]; rfl
theorem store_path {st : Store} {b : Nat} {q : Path} {v : PV} {kvs : List (PV × PV)} (h : st[b]? = some (.dic true kvs)) (hl : kvs.length < 1000000) : D.store st (.ref b) (ppv q) v = some (st.set b (.dic true (put (ppv q) v kvs))) := by
  simp [D.store, h, hl]
theorem goneA_snoc (t s P q) : goneA t s (P ++ [q]) = goneA t s P ++ (if belQ t s q ∈ t.paths then [] else (offQ t s q).map fun w => (q, wdQ t s q, w)) := by simp [goneA]
theorem goneB_snoc (t s f P q) : goneB t s f (P ++ [q]) = goneB t s f P ++ (finQ t s f q).2.map fun w => (q, sBy, w) := by simp [goneB]
theorem eq_ii (a b : Int) : O.eq (.int a) (.int b) = some (.bl (decide (a = b))) := by simp [O.eq, eqP]
theorem ne_ii (a b : Int) : O.ne (.int a) (.int b) = some (.bl (!decide (a = b))) := by simp [O.ne, eqP]
theorem add_p (q : Path) (x : Int) (h : q.length ≤ 1000) : O.add (ppv q) (.tup [.int x]) = some (ppv (q ++ [x])) := by
  simp only [ppv, O.add, List.length_map, List.length_cons, List.length_nil]
  rw [if_pos (by omega)]
  simp
theorem sortI_le (l : List Int) : (sortI l).Pairwise (· ≤ ·) := by
  refine isort_sorted (R := (· ≤ ·)) ?_ ?_ (fun _ _ _ => Int.le_trans) l
  · intro x y h
    simp [ltI] at h
    omega
  · intro x y h
    simp [ltI] at h
    omega
theorem st_len {t : Th} {s : Stand} (g : GoodArm t) (gs : GoodSt t s) {q : Path} (hq : q ∈ t.paths) : ((stQ t s q).length : Int) ≤ (limQ t q).2.2 ∧ (limQ t q).2.2 ≤ 3 := by
  obtain ⟨l, r, sl, h, hs, e1, e2, e3, e4⟩ := info g gs hq
  have k : (stQ t s q).length ≤ (bdOf t s q).length := by
    simp only [stQ, stay]
    refine Nat.le_trans (List.length_filter_le _ _) ?_
    simp
  have := e3.len
  have := e2.2.2.2.1
  rw [e4]
  simp only
  omega
theorem fin_len {t : Th} {s : Stand} (falls : List Int) (g : GoodArm t) (gs : GoodSt t s) {q : Path} (hq : q ∈ t.paths) : (finQ t s falls q).1.length ≤ 3 := by
  have a := st_len g gs hq
  have b := catch_len (sortI (comeQ t s falls q)) (stQ t s q) [] a.1
  simp only [finQ]
  omega
theorem updF_q (F q b) : updF F q b q = b := by simp [updF]
theorem updF_ne {F : Path → List Bead} {q p : Path} (b) (h : p ≠ q) : updF F q b p = F p := by simp [updF, h]
theorem updF_upd (F q b b') : updF (updF F q b) q b' = updF F q b' := by
  funext p
  simp only [updF]
  split <;> rfl
theorem updF_id {F : Path → List Bead} {q : Path} {b : List Bead} (h : F q = b) : updF F q b = F := by
  funext p
  simp only [updF]
  split
  · rename_i e; rw [e, h]
  · rfl
theorem shown_falls {f : List Int} (h : FallsOk f) : Shown 1 48 (.tup (f.map .int)) := Shown.map (n := 3) (B := 13) f (fun x hx => Shown.int (by have := h.ok x hx; omega)) h.len
end Dn

namespace Dn
open PySem
theorem x_is_whole (n v) (hk : known v = true) (hp : plain v = true) (st) : callN tbl (n + 1) i_is_whole [v] st = .ok (.bl (isI v)) st :=
  fn_ret t_is_whole rfl (by simp [hp]) (by
    cases v <;> simp [b_is_whole, start, O.isInt, O.isBool, deref, isI]
    all_goals first | (simp [known] at hk; done) | skip
    rename_i t kvs
    cases t
    · simp
    · simp [known] at hk) rfl

theorem x_is_within (n v) (a b : Int) (hk : known v = true) (hp : plain v = true) (st) : callN tbl (n + 2) i_is_within [v, .int a, .int b] st = .ok (.bl (inI a b v)) st :=
  fn_ret t_is_within rfl (by simp [hp]) (by
    simp [b_is_within, start, x_is_whole n v hk hp]
    cases v <;> simp [isI, inI, O.le, deref]
    rename_i i
    by_cases h : a ≤ i <;> simp [h]) rfl

theorem x_is_weight (n v) (hk : known v = true) (hp : plain v = true) (st) : callN tbl (n + 3) i_is_weight [v] st = .ok (.bl (inI 1 9 v)) st :=
  fn_ret t_is_weight rfl (by simp [hp]) (by simp [b_is_weight, start, deref, x_is_within n v 1 9 hk hp]) rfl

theorem x_is_long (n v) (a b : Int) (hk : known v = true) (hp : plain v = true) (st) : callN tbl (n + 1) i_is_long [v, .int a, .int b] st = .ok (.bl (longP a b v)) st :=
  fn_ret t_is_long rfl (by simp [hp]) (by
    cases v <;> simp [b_is_long, start, O.le, O.isTup, O.len, deref, longP]
    all_goals first | (simp [known] at hk; done) | skip
    · rename_i xs
      by_cases h : a ≤ xs.length <;> simp [h]
    · rename_i t kvs
      cases t
      · simp
      · simp [known] at hk) rfl

end Dn

namespace Dn
open PySem
theorem x_rises (n) (L : List Int) (h : Rise L) (hn : L.length ≤ 1000000) (st) : callN tbl (n + 1) i_rises [.lst (L.map PV.int)] st = .ok (.bl true) st :=
  fn_ret t_rises rfl (by simp) (by
    simp only [b_rises, s_ret, e_op1]
    rw [lc_all (fun x : Int × Int => .tup [.int x.1, .int x.2]) (fun x => PV.bl (decide (x.1 < x.2))) (pairsOf L) (src := none)]
    · simp only [Res.bind_ok, deref_lst, all_map, Res.of_some, fin_ok, pairs_rise h]
    · simp [D.zip, start, O.slice, deref, cut1]
      rw [← List.map_tail, zipP_map]
      rfl
    · rfl
    · simp [pairsOf]; omega
    · intro x _
      refine ⟨_, by simp [deref, D.wipe, start]; rfl, by simp [O.lt, deref, start, D.wipe]⟩) rfl

theorem x_is_arm_by : ∀ (d : Nat) (l r s h : Int) (hs : List (Int × Th)), Ok d (.arm l r s h hs) → ∀ n, d + 3 ≤ n → ∀ st, callN tbl n i_is_arm_by [(Th.arm l r s h hs).pv, .int d] st = .ok (.bl true) st
  | 0, _, _, _, _, _, ok, _, _, _ => (show False from ok).elim
  | d + 1, l, r, s, h, hs, ok, n, hn, st => by
    obtain ⟨m, rfl, hm⟩ := up (k := d + 3) (by omega : d + 3 + 1 ≤ n)
    obtain ⟨a1, a2, a3, a4, a5, a6⟩ := ok
    obtain ⟨m3, rfl⟩ : ∃ k, m = k + 3 := ⟨m - 3, by omega⟩
    have c1 : (1 : Int) ≤ l := a1.1
    have len : hs.length ≤ 1000000 := by
      have := rise_len a5 (fun x hx => by
        obtain ⟨y, hy, rfl⟩ := List.mem_map.mp hx
        exact (a6 y hy).1)
      rw [List.length_map] at this
      omega
    refine fn_ret t_is_arm_by rfl (by simp) ?_ rfl
    rw [pv_arm]
    have d0 : ¬ ((d : Int) + 1 = 0) := by omega
    simp [b_is_arm_by, start, O.eq, eqP, flat, eqv, d0, x_is_long, x_is_within, a1, a2, a3, a4, O.isTup]
    rw [lc_all hpv (fun _ => PV.bl true) hs (src := none)]
    · simp
      rw [lc_all hpv (fun x => PV.int x.1) hs (src := none)]
      · have e1 := x_rises (m3 + 2) (hs.map (·.1)) a5 (by simpa using len) []
        rw [List.map_map] at e1
        simp only [Function.comp_def] at e1
        simp [e1]
        rw [lc_all hpv (fun _ => PV.bl true) hs (src := none)]
        · simp
        · exact walk_tup (by simp)
        · rfl
        · exact len
        · intro x hx
          refine ⟨_, rfl, ?_⟩
          obtain ⟨p, t⟩ := x
          have ok := (a6 _ hx).2
          cases t with
          | w k =>
            obtain ⟨k1, k2⟩ := Ok_w.mp ok
            simp [D.wipe, hpv, pv_w, x_is_weight, k1, k2]
          | arm l' r' s' h' hs' =>
            have ih := x_is_arm_by d l' r' s' h' hs' (show Ok d (.arm l' r' s' h' hs') from ok) (m3 + 3) (by omega) []
            have k1 : inI 1 9 (Th.arm l' r' s' h' hs').pv = false := by rw [pv_arm]; rfl
            have k2 : ((d : Int) + 1) - 1 = d := by omega
            simp [D.wipe, hpv, x_is_weight, k1, O.sub, k2, ih]
      · exact walk_tup (by simp)
      · rfl
      · exact len
      · intro x hx
        exact ⟨_, rfl, by simp [D.wipe, hpv]⟩
    · exact walk_tup (by simp)
    · rfl
    · exact len
    · intro x hx
      refine ⟨_, rfl, ?_⟩
      simp [D.wipe, hpv, x_is_long, O.item, getL, ixP, x_is_within, O.sub]
      have := (a6 x hx).1
      omega

theorem x_arms_in : ∀ (d : Nat) (l r s h : Int) (hs : List (Int × Th)), Ok d (.arm l r s h hs) → ∀ n, d ≤ n → ∀ st, callN tbl n i_arms_in [(Th.arm l r s h hs).pv] st = .ok (.int (Th.arm l r s h hs).paths.length) st
  | 0, _, _, _, _, _, ok, _, _, _ => (show False from ok).elim
  | d + 1, l, r, s, h, hs, ok, n, hn, st => by
    obtain ⟨m, rfl, hm⟩ := up hn
    have len := ok_len ok
    refine fn_ret t_arms_in rfl (by simp) ?_ rfl
    rw [paths_count]
    simp [b_arms_in, start]
    rw [lc_map hpv (fun x => PV.int x.2.paths.length) (fun x => x.2.isA) hs (src := none)]
    · simp [O.add]
      exact sum_filter _ _ (fun x hx => by simp [isA_paths hx]) hs
    · exact walk_tup (by simp [pv_arm, deref, O.item, getL, ixP])
    · rfl
    · omega
    · intro x hx
      obtain ⟨p, t⟩ := x
      refine ⟨_, rfl, ?_, fun ht => ?_⟩
      · cases t <;> simp [D.tests, D.wipe, hpv, pv_arm, pv_w, O.isTup, Th.isA]
      · cases t with
        | w k => cases ht
        | arm l' r' s' h' hs' =>
          have ih := x_arms_in d l' r' s' h' hs' (ok.2.2.2.2.2 _ hx).2 m hm []
          simp [D.wipe, hpv, ih]

theorem x_is_arm (n) {t : Th} (g : GoodArm t) (hn : 7 ≤ n) (st) : callN tbl n i_is_arm [t.pv] st = .ok (.bl true) st := by
  obtain ⟨m, rfl, hm⟩ := up hn
  cases t with
  | w k => cases g.a
  | arm l r s h hs =>
    refine fn_ret t_is_arm rfl (by simp) ?_ rfl
    have e1 := x_is_arm_by 3 l r s h hs g.ok m hm []
    have e2 := x_arms_in 3 l r s h hs g.ok m (by omega) []
    have := g.few
    simp only [Int.cast_ofNat_Int] at e1
    simp [b_is_arm, start, e1, e2, O.le]
    omega

theorem x_need_arm (n) {t : Th} (g : GoodArm t) (hn : 8 ≤ n) (st) : callN tbl n i_need_arm [t.pv] st = .ok .non st := by
  obtain ⟨m, rfl, hm⟩ := up hn
  refine fn_non t_need_arm rfl (by simp) ?_
  simp [b_need_arm, start, x_is_arm m g hm]

theorem x_paths_by' : ∀ (d : Nat) (l r s h : Int) (hs : List (Int × Th)), Ok d (.arm l r s h hs) → (Th.arm l r s h hs).paths.length ≤ 1000 → d ≤ 100 → ∀ n, d ≤ n → ∀ st, callN tbl n i_paths_by [(Th.arm l r s h hs).pv] st = .ok (.tup ((Th.arm l r s h hs).paths.map ppv)) st
  | 0, _, _, _, _, _, ok, _, _, _, _, _ => (show False from ok).elim
  | d + 1, l, r, s, h, hs, ok, few, hd, n, hn, st => by
    obtain ⟨m, rfl, hm⟩ := up hn
    have few' : ∀ x ∈ hs, x.2.paths.length ≤ 1000 := fun x hx => paths_few few hx
    have ps := paths_arm l r s h hs
    refine fn_ret t_paths_by rfl (by simp) ?_ (by simp [plainL_map])
    simp [b_paths_by, start]
    refine for_then (G := fun r => fin (Res.bind r _) = _) hpv hs none (fun M σ st => ∃ acc a b c, acc ++ M.flatMap (fun x => x.2.paths.map (x.1 :: ·)) = (Th.arm l r s h hs).paths ∧ (∀ x ∈ M, x ∈ hs) ∧ σ = [some (Th.arm l r s h hs).pv, some (.ref 0), a, b, c] ∧ st = [.lst (acc.map ppv)])
      (walk_tup (by simp [pv_arm, deref, O.item, getL, ixP])) (fun _ _ _ _ => rfl) ⟨[[]], none, none, none, by rw [ps]; rfl, fun _ z => z, rfl, rfl⟩ ?_ ?_
    · rintro x M σ st ⟨acc, a, b, c, e1, hM, rfl, rfl⟩
      have hx := hM x List.mem_cons_self
      obtain ⟨p, t⟩ := x
      cases t with
      | w k =>
        refine ⟨.nx, [some (Th.arm l r s h hs).pv, some (.ref 0), some (.int p), some (.int k), c], [.lst (acc.map ppv)], ?_, .inl rfl, acc, _, _, _, ?_, fun y hy => hM y (List.mem_cons_of_mem _ hy), rfl, rfl⟩
        · simp [hpv, pv_w, O.isTup]
        · simpa [paths_w] using e1
      | arm l' r' s' h' hs' =>
        have ok' := (ok.2.2.2.2.2 _ hx).2
        have f' := few' _ hx
        have ih := x_paths_by' d l' r' s' h' hs' ok' f' (by omega) m hm
        have tot : acc.length + (Th.arm l' r' s' h' hs').paths.length ≤ 1000 := by
          have := congrArg List.length e1
          simp only [List.length_append, List.flatMap_cons, List.length_map] at this
          omega
        refine ⟨.nx, [some (Th.arm l r s h hs).pv, some (.ref 0), some (.int p), some (Th.arm l' r' s' h' hs').pv, c], [.lst ((acc ++ (Th.arm l' r' s' h' hs').paths.map (p :: ·)).map ppv)], ?_, .inl rfl, acc ++ (Th.arm l' r' s' h' hs').paths.map (p :: ·), _, _, _, ?_, fun y hy => hM y (List.mem_cons_of_mem _ hy), rfl, rfl⟩
        · have isT : O.isTup (Th.arm l' r' s' h' hs').pv = some (.bl true) := by rw [pv_arm]; rfl
          have dr : ∀ st, deref st (Th.arm l' r' s' h' hs').pv = (Th.arm l' r' s' h' hs').pv := by intro st; rw [pv_arm]; rfl
          simp [hpv, isT, dr]
          rw [extend_ok (n := 0) (xs := acc.map ppv) (ys := (Th.arm l' r' s' h' hs').paths.map fun q => ppv (p :: q))]
          · simp
          · simp
          · simp
          · rw [lc_all ppv (fun q => ppv (p :: q)) (Th.arm l' r' s' h' hs').paths (src := none)]
            · exact walk_tup (by simp [ih])
            · rfl
            · omega
            · intro q hq
              refine ⟨_, rfl, ?_⟩
              have := path_len d _ ok' q hq
              simp [D.wipe, ppv, O.add]
              rw [if_pos (by omega)]
              rfl
          · simp
            omega
        · simpa using e1
    · rintro σ' st' ⟨acc, a, b, c, e1, _, rfl, rfl⟩
      simp only [List.flatMap_nil, List.append_nil] at e1
      subst e1
      simp [deref, O.tuple]

end Dn

namespace Dn
open PySem
theorem x_paths_by (n) {t : Th} (g : GoodArm t) (hn : 3 ≤ n) (st) : callN tbl n i_paths_by [t.pv] st = .ok (.tup (t.paths.map ppv)) st := by
  cases t with
  | w k => cases g.a
  | arm l r s h hs => exact x_paths_by' 3 l r s h hs g.ok (by have := g.few; omega) (by omega) n hn st

theorem x_arm_by' (n) (d : Nat) {t u : Th} (ok : Ok d t) (q : Path) (e : t.sub q = some u) (st) : callN tbl (n + 1) i_arm_by [t.pv, ppv q] st = .ok u.pv st := by
  refine fn_ret t_arm_by rfl (by simp) ?_ (by simp)
  simp [b_arm_by, start]
  refine for_then (G := fun r => fin (Res.bind r _) = _) PV.int q none (fun M σ st => ∃ v d b, Ok d v ∧ v.sub M = some u ∧ σ = [some t.pv, some (ppv q), some v.pv, b])
    (walk_tup (by simp [ppv])) (fun _ _ _ _ => rfl) ⟨t, d, none, ok, e, rfl⟩ ?_ ?_
  · rintro p M σ st ⟨v, d, b, ok, e, rfl⟩
    cases v with
    | w k => simp [Th.sub] at e
    | arm l r s h hs =>
      cases d with
      | zero => exact (show False from ok).elim
      | succ d =>
        simp only [Th.sub] at e
        obtain ⟨v, e1, e2⟩ := Option.bind_eq_some_iff.mp e
        refine ⟨.nx, [some t.pv, some (ppv q), some v.pv, some (.int p)], st, ?_, .inl rfl, v, d, _, (ok.2.2.2.2.2 _ (look_some e1)).2, e2, rfl⟩
        have nd := rise_nodup ok.2.2.2.2.1
        simp [pv_arm, deref, O.item, getL, ixP, O.list, O.dictOf, hung_dict nd, keyT, hung_find nd e1]
  · rintro σ st ⟨v, d, b, ok, e, rfl⟩
    simp only [Th.sub, Option.some.injEq] at e
    subst e
    simp
theorem x_arm_by (n) {t u : Th} (g : GoodArm t) (q : Path) (e : t.sub q = some u) (hn : 1 ≤ n) (st) : callN tbl n i_arm_by [t.pv, ppv q] st = .ok u.pv st := by
  obtain ⟨m, rfl, hm⟩ := up hn
  exact x_arm_by' m 3 g.ok q e st

end Dn

namespace Dn
open PySem
theorem x_falls_not_beads (n) (L : List Bead) (h : Sorted2 L) (hn : L.length ≤ 1000000) (st) : callN tbl (n + 1) i_falls_not [bspv L] st = .ok (.bl true) st :=
  fn_ret t_falls_not rfl (by simp) (by
    simp only [b_falls_not, s_ret, e_op1]
    rw [lc_all (fun x : Bead × Bead => .tup [bpv x.1, bpv x.2]) (fun x => PV.bl (le2 x.1 x.2)) (pairsOf L) (src := none)]
    · simp only [Res.bind_ok, deref_lst, all_map, Res.of_some, fin_ok, pairs_sorted h]
    · simp [D.zip, start, O.slice, bspv, cut1]
      rw [← List.map_tail, zipP_map]
      rfl
    · rfl
    · simp [pairsOf]; omega
    · intro x _
      exact ⟨_, by simp [deref, D.wipe, start]; rfl, by simp [le_bpv, start, D.wipe]⟩) rfl
theorem x_falls_not_ints (n) (L : List Int) (h : L.Pairwise (· ≤ ·)) (hn : L.length ≤ 1000000) (st) : callN tbl (n + 1) i_falls_not [.tup (L.map .int)] st = .ok (.bl true) st :=
  fn_ret t_falls_not rfl (by simp) (by
    simp only [b_falls_not, s_ret, e_op1]
    have key : ∀ {L : List Int}, L.Pairwise (· ≤ ·) → (pairsOf L).all (fun x => decide (x.1 ≤ x.2)) = true := by
      intro L h
      induction L with
      | nil => rfl
      | cons a L ih =>
        cases L with
        | nil => rfl
        | cons b L =>
          have := ih (List.pairwise_cons.mp h).2
          simp only [pairsOf, List.tail_cons, List.zip_cons_cons, List.all_cons, Bool.and_eq_true, decide_eq_true_eq] at this ⊢
          exact ⟨(List.pairwise_cons.mp h).1 b List.mem_cons_self, by simpa [pairsOf] using this⟩
    rw [lc_all (fun x : Int × Int => .tup [.int x.1, .int x.2]) (fun x => PV.bl (decide (x.1 ≤ x.2))) (pairsOf L) (src := none)]
    · simp only [Res.bind_ok, deref_lst, all_map, Res.of_some, fin_ok, key h]
    · simp [D.zip, start, O.slice, cut1]
      rw [← List.map_tail, zipP_map]
      rfl
    · rfl
    · simp [pairsOf]; omega
    · intro x _
      exact ⟨_, by simp [deref, D.wipe, start]; rfl, by simp [O.le, start, D.wipe]⟩) rfl

theorem x_is_bead (n) (l r s h : Int) (hs : List (Int × Th)) (b : Bead) (hb : (-l ≤ b.1 ∧ b.1 ≤ r) ∧ 1 ≤ b.2 ∧ b.2 ≤ 3) (st) : callN tbl (n + 3) i_is_bead [(Th.arm l r s h hs).pv, bpv b] st = .ok (.bl true) st := by
  refine fn_ret t_is_bead rfl (by simp) ?_ rfl
  obtain ⟨b1, b2⟩ := b
  simp [b_is_bead, start, x_is_long, bpv, O.item, getL, ixP, pv_arm, x_is_within, O.sub]
  simp at hb
  simp [hb]

theorem x_are_beads (n) (l r s h : Int) (hs : List (Int × Th)) (bs : List Bead) (hb : BeadsOk l r h bs) (h3 : h ≤ 3) (st) : callN tbl (n + 4) i_are_beads [(Th.arm l r s h hs).pv, bspv bs] st = .ok (.bl true) st := by
  refine fn_ret t_are_beads rfl (by simp) ?_ rfl
  have hl := hb.len
  have e : O.item (Th.arm l r s h hs).pv (.int 3) = some (.int h) := by simp [pv_arm, O.item, getL, ixP]
  have len : bs.length ≤ 1000000 := by omega
  simp [b_are_beads, start, e, x_is_long, bspv, hl]
  rw [lc_all bpv (fun _ => PV.bl true) bs (src := none)]
  · have e2 := x_falls_not_beads (n + 2) bs hb.up len []
    simp only [bspv] at e2
    simp [e2]
  · exact walk_tup (by simp)
  · rfl
  · exact len
  · intro b hb'
    exact ⟨_, rfl, by simp [D.wipe, x_is_bead n l r s h hs b (hb.ok b hb')]⟩

theorem x_is_standing_by (n) {t : Th} {s : Stand} (g : GoodArm t) (gs : GoodSt t s) (hn : 5 ≤ n) (st) : callN tbl n i_is_standing_by [t.pv, spv s] st = .ok (.bl true) st := by
  obtain ⟨m, rfl⟩ : ∃ m, n = m + 5 := ⟨n - 5, by omega⟩
  refine fn_ret t_is_standing_by rfl (by simp) ?_ rfl
  have e1 := x_paths_by (m + 4) g (by omega) []
  have few := g.few
  have len := gs.len
  simp [b_is_standing_by, start, e1, O.len, x_is_long, spv, len]
  rw [lc_all (fun x : Path × List Bead => .tup [ppv x.1, bspv x.2]) (fun _ => PV.bl true) (t.paths.zip s) (src := none)]
  · simp
  · simp [D.zip, zipP_map]
  · rfl
  · simp; omega
  · rintro ⟨q, bs⟩ hx
    obtain ⟨l, r, sl, h, hs, e3, e4, e5⟩ := gs.ok _ hx
    have e6 := x_arm_by (m + 4) g q e3 (by omega) []
    exact ⟨_, by simp [D.wipe]; rfl, by simp [D.wipe, e6, x_are_beads m l r sl h hs bs e5 e4.2.2.2.1.2]⟩

theorem x_need_standing (n) {t : Th} {s : Stand} (g : GoodArm t) (gs : GoodSt t s) (hn : 9 ≤ n) (st) : callN tbl n i_need_standing [t.pv, spv s] st = .ok .non st := by
  obtain ⟨m, rfl, hm⟩ := up hn
  refine fn_non t_need_standing rfl (by simp) ?_
  simp [b_need_standing, start, x_need_arm m g hm, x_is_standing_by m g gs (by omega)]

theorem x_is_path (n) {t : Th} (g : GoodArm t) {q : Path} (hq : q ∈ t.paths) (hn : 4 ≤ n) (st) : callN tbl n i_is_path [t.pv, ppv q] st = .ok (.bl true) st := by
  obtain ⟨m, rfl⟩ : ∃ m, n = m + 2 := ⟨n - 2, by omega⟩
  refine fn_ret t_is_path rfl (by simp) ?_ rfl
  have len := path_len 3 t g.ok q hq
  have e1 := x_paths_by (m + 1) g (by omega) []
  simp [b_is_path, start, ppv, O.isTup]
  rw [lc_all PV.int (fun _ => PV.bl true) q (src := none)]
  · have e2 := in_paths t.paths q
    rw [decide_eq_true hq] at e2
    simp only [ppv] at e1 e2
    simp [e1, e2]
  · exact walk_tup (by simp)
  · rfl
  · omega
  · intro x _
    exact ⟨_, rfl, by simp [D.wipe, x_is_whole, isI]⟩

theorem x_need_path (n) {t : Th} (g : GoodArm t) {q : Path} (hq : q ∈ t.paths) (hn : 9 ≤ n) (st) : callN tbl n i_need_path [t.pv, ppv q] st = .ok .non st := by
  obtain ⟨m, rfl, hm⟩ := up hn
  refine fn_non t_need_path rfl (by simp) ?_
  simp [b_need_path, start, x_need_arm m g hm, x_is_path m g hq (by omega)]

end Dn

namespace Dn
open PySem
abbrev sLoads : Str := ⟨#[108, 111, 97, 100, 115]⟩
abbrev sTilts : Str := ⟨#[116, 105, 108, 116, 115]⟩
abbrev sBeads : Str := ⟨#[98, 101, 97, 100, 115]⟩
def seenFs (o : Nat) (kvs : List (PV × PV)) : List (Str × PV) := [(sLoads, .ref (o + 1)), (sTilts, .ref (o + 2)), (sBeads, .dic true kvs)]
/-- the store with what is seen so far -/
def SN (base : Store) (kvs : List (PV × PV)) (bd : Path → List Bead) (A : Th) (P : List Path) (J : Store) : Store := S4 base (.ins c_Seen (seenFs base.length kvs)) (.dic true (ents (LD bd A) P)) (.dic true (ents (TL bd A) P)) J
def itemP (bd : Path → List Bead) (q : Path) (x : Int × Th) : PV := .tup [.int x.1, .int (loadT bd (q ++ [x.1]) x.2)]
theorem x_Seen_look (base : Store) (kvs : List (PV × PV)) (bd : Path → List Bead) (A : Th) : ∀ (d : Nat) (l r s h : Int) (hs : List (Int × Th)) (q : Path), Ok d (.arm l r s h hs) → d ≤ 100 → q.length + d ≤ 100 → A.sub q = some (.arm l r s h hs) →
    (∀ p ∈ (Th.arm l r s h hs).paths, find (ppv (q ++ p)) kvs = some (bspv (bd (q ++ p))) ∧ (bd (q ++ p)).length ≤ 1000 ∧ ∀ b ∈ bd (q ++ p), O.small b.1 = true) → (∀ z ∈ (Th.arm l r s h hs).paths, True) → ∀ (n : Nat), d ≤ n → ∀ (P : List Path) (J : Store), P.length + (post q (.arm l r s h hs)).length ≤ 1000 → (∀ p ∈ post q (.arm l r s h hs), p ∉ P) →
    ∃ J', callN tbl n i_Seen_look [.ref base.length, (Th.arm l r s h hs).pv, ppv q] (SN base kvs bd A P J) = .ok (.int (loadT bd q (.arm l r s h hs))) (SN base kvs bd A (P ++ post q (.arm l r s h hs)) (J ++ J'))
  | 0, _, _, _, _, _, _, ok, _, _, _, _, _, _, _, _, _, _, _ => (show False from ok).elim
  | d + 1, l, r, s, h, hs, q, ok, hd, hq, sb, fd, _, n, hn, P, J, hP, fr => by
    obtain ⟨m, rfl, hm⟩ := up hn
    have len := ok_len ok
    obtain ⟨f0, b0, b1⟩ := fd [] (by rw [paths_arm]; exact List.mem_cons_self)
    rw [List.append_nil] at f0 b0 b1
    have key : ∃ σ' J', b_Seen_look (callN tbl m) (start 7 [.ref base.length, (Th.arm l r s h hs).pv, ppv q]) (SN base kvs bd A P J) = .ok (.ret (.int (loadT bd q (.arm l r s h hs))), σ') (SN base kvs bd A (P ++ post q (.arm l r s h hs)) (J ++ J')) := by
      have a1 : D.attr c_Seen (D.var 0) sBeads (callN tbl m) [some (.ref base.length), some (Th.arm l r s h hs).pv, some (ppv q), none, none, none, none] (SN base kvs bd A P J) = .ok (.dic true kvs) (SN base kvs bd A P J) := attr_ok (by simp) S4_0 rfl
      simp [b_Seen_look, start, a1, O.item, f0, bspv, O.list]
      have sl : (SN base kvs bd A P J).length = base.length + 3 + J.length := S4_len
      rw [sl]
      have e0 : SN base kvs bd A P J ++ [PO.lst ((bd q).map bpv)] = SN base kvs bd A P (J ++ [PO.lst ((bd q).map bpv)]) := S4_app
      rw [e0]
      have nodup := post_nodup (d + 1) _ ok q
      have pa := post_arm q l r s h hs
      have k0 : ∀ (P' : List Path) (done : List (Int × Th)) (J1 : Store), (SN base kvs bd A P' (J ++ .lst ((bd q).map bpv ++ done.map (itemP bd q)) :: J1))[base.length + 3 + J.length]? = some (.lst ((bd q).map bpv ++ done.map (itemP bd q))) := fun P' done J1 => by
        unfold SN
        rw [S4_j, List.getElem?_append_right (Nat.le_refl _), Nat.sub_self]
        rfl
      refine for_then (G := fun r => ∃ σ' J', Res.bind r _ = .ok (_, σ') (SN base kvs bd A _ (J ++ J'))) hpv hs none (fun M σ st => ∃ done J1 x y, done ++ M = hs ∧ σ = [some (.ref base.length), some (Th.arm l r s h hs).pv, some (ppv q), some (.ref (base.length + 3 + J.length)), x, y, none] ∧
          st = SN base kvs bd A (P ++ done.flatMap fun x => post (q ++ [x.1]) x.2) (J ++ .lst ((bd q).map bpv ++ done.map (itemP bd q)) :: J1))
        (walk_tup (by simp [pv_arm, deref, O.item, getL, ixP])) (fun _ _ _ _ => rfl) ⟨[], [], none, none, rfl, rfl, by simp⟩ ?_ ?_
      · rintro x M σ st ⟨done, J1, x1, y1, e1, rfl, rfl⟩
        have hx : x ∈ hs := e1 ▸ List.mem_append_right _ List.mem_cons_self
        have dl : done.length ≤ 7 := by
          have := congrArg List.length e1
          simp at this
          omega
        have setk : ∀ (P' : List Path) (J2 : Store) (v : PV), (SN base kvs bd A P' (J ++ .lst ((bd q).map bpv ++ done.map (itemP bd q)) :: J2)).set (base.length + 3 + J.length) (.lst ((bd q).map bpv ++ done.map (itemP bd q) ++ [v])) = SN base kvs bd A P' (J ++ .lst ((bd q).map bpv ++ done.map (itemP bd q) ++ [v]) :: J2) := fun P' J2 v => by
          unfold SN
          rw [S4_setj, List.set_append_right _ _ (Nat.le_refl _), Nat.sub_self]
          rfl
        obtain ⟨p, t⟩ := x
        cases t with
        | w k =>
          refine ⟨.nx, [some (.ref base.length), some (Th.arm l r s h hs).pv, some (ppv q), some (.ref (base.length + 3 + J.length)), some (.int p), some (.int k), none], _, ?_, .inl rfl, done ++ [(p, .w k)], J1, _, _, by simp [← e1], rfl, rfl⟩
          simp [hpv, pv_w]
          rw [append_ok (n := base.length + 3 + J.length) (xs := (bd q).map bpv ++ done.map (itemP bd q)) (v := itemP bd q (p, .w k)) (st' := SN base kvs bd A (P ++ done.flatMap fun x => post (q ++ [x.1]) x.2) (J ++ .lst ((bd q).map bpv ++ done.map (itemP bd q)) :: J1)) (by simp) ⟨_, k0 _ done J1⟩ (by simp [O.isTup, itemP, load_w]) (k0 _ done J1) (by simp; omega)]
          rw [setk]
          simp [post_w]
        | arm l' r' s' h' hs' =>
          have ok' := (ok.2.2.2.2.2 _ hx).2
          have mem : (done.flatMap fun x => post (q ++ [x.1]) x.2) ++ (post (q ++ [p]) (.arm l' r' s' h' hs') ++ M.flatMap fun x => post (q ++ [x.1]) x.2) = hs.flatMap fun x => post (q ++ [x.1]) x.2 := by
            rw [← e1]; simp
          have nd2 := nodup
          rw [pa, ← mem] at nd2
          have sb' : A.sub (q ++ [p]) = some (.arm l' r' s' h' hs') := by
            rw [sub_append A q [p] sb]
            simp only [Th.sub, look_mem (rise_nodup ok.2.2.2.2.1) hx, Option.bind_some]
          obtain ⟨J', ih⟩ := x_Seen_look base kvs bd A d l' r' s' h' hs' (q ++ [p]) ok' (by omega) (by simp; omega) sb' (fun p' hp' => by
              have := fd (p :: p') (by rw [paths_arm]; exact List.mem_cons_of_mem _ (List.mem_flatMap.mpr ⟨_, hx, List.mem_map.mpr ⟨p', hp', rfl⟩⟩))
              simpa using this) (fun _ _ => trivial) m hm (P ++ done.flatMap fun x => post (q ++ [x.1]) x.2) (J ++ .lst ((bd q).map bpv ++ done.map (itemP bd q)) :: J1) (by
              rw [pa, ← mem] at hP
              simp only [List.length_append] at hP ⊢
              omega) (fun p' hp' hm' => by
              rcases List.mem_append.mp hm' with z | z
              · exact fr p' (by rw [pa, ← mem]; simp [hp']) z
              · have := (List.nodup_append.mp (List.nodup_append.mp nd2).1).2.2 p' z p' (List.mem_append_left _ hp')
                exact this rfl)
          have e5 : (P ++ done.flatMap fun x => post (q ++ [x.1]) x.2) ++ post (q ++ [p]) (.arm l' r' s' h' hs') = P ++ (done ++ [((p, Th.arm l' r' s' h' hs') : Int × Th)]).flatMap fun x => post (q ++ [x.1]) x.2 := by simp
          have e6 : (J ++ .lst ((bd q).map bpv ++ done.map (itemP bd q)) :: J1) ++ J' = J ++ .lst ((bd q).map bpv ++ done.map (itemP bd q)) :: (J1 ++ J') := by simp
          rw [e5, e6] at ih
          refine ⟨.nx, [some (.ref base.length), some (Th.arm l r s h hs).pv, some (ppv q), some (.ref (base.length + 3 + J.length)), some (.int p), some (Th.arm l' r' s' h' hs').pv, none], _, ?_, .inl rfl, done ++ [(p, .arm l' r' s' h' hs')], J1 ++ J', _, _, by simp [← e1], rfl, rfl⟩
          have isT : O.isTup (Th.arm l' r' s' h' hs').pv = some (.bl true) := by rw [pv_arm]; rfl
          have cat : O.add (ppv q) (.tup [.int p]) = some (ppv (q ++ [p])) := by
            simp only [O.add, ppv, List.length_map, List.length_cons, List.length_nil]
            rw [if_pos (by omega)]
            simp
          have mth := meth_ok (m := (⟨#[108, 111, 111, 107]⟩ : PySem.Str)) (g := i_Seen_look) (dfl := []) (cs := callN tbl m) (σ := [some (.ref base.length), some (Th.arm l r s h hs).pv, some (ppv q), some (.ref (base.length + 3 + J.length)), some (.int p), some (Th.arm l' r' s' h' hs').pv, none]) (C := c_Seen) (n := base.length) (fs := seenFs base.length kvs)
            (a := D.var 0) (es := D.cons (D.var 5) (D.cons (D.op2 O.add (D.var 2) (D.tup (D.cons (D.var 4) D.nil))) D.nil)) (st := SN base kvs bd A (P ++ done.flatMap fun x => post (q ++ [x.1]) x.2) (J ++ .lst ((bd q).map bpv ++ done.map (itemP bd q)) :: J1)) (st1 := SN base kvs bd A (P ++ done.flatMap fun x => post (q ++ [x.1]) x.2) (J ++ .lst ((bd q).map bpv ++ done.map (itemP bd q)) :: J1)) (vs := [(Th.arm l' r' s' h' hs').pv, ppv (q ++ [p])]) (by simp) S4_0 rfl (by simp [cat])
          simp only [List.append_nil] at mth
          rw [ih] at mth
          simp [hpv]
          rw [append_ok (n := base.length + 3 + J.length) (xs := (bd q).map bpv ++ done.map (itemP bd q)) (v := itemP bd q (p, .arm l' r' s' h' hs')) (st := SN base kvs bd A (P ++ done.flatMap fun x => post (q ++ [x.1]) x.2) (J ++ .lst ((bd q).map bpv ++ done.map (itemP bd q)) :: J1)) (st' := SN base kvs bd A (P ++ (done ++ [((p, Th.arm l' r' s' h' hs') : Int × Th)]).flatMap fun x => post (q ++ [x.1]) x.2) (J ++ .lst ((bd q).map bpv ++ done.map (itemP bd q)) :: (J1 ++ J'))) (by simp) ⟨_, k0 _ done J1⟩ (by simp [isT, itemP, mth]) (k0 _ done _) (by simp; omega)]
          rw [setk]
          simp
      · rintro σ' st' ⟨done, J1, x1, y1, e1, rfl, rfl⟩
        rw [List.append_nil] at e1
        subst e1
        have its : (bd q).map bpv ++ done.map (itemP bd q) = (bd q ++ done.map fun x => (x.1, loadT bd (q ++ [x.1]) x.2)).map bpv := by
          simp [itemP, bpv]
        have qn : q ∉ P ++ done.flatMap fun x => post (q ++ [x.1]) x.2 := fun hm' => by
          rcases List.mem_append.mp hm' with z | z
          · exact fr q (by rw [pa]; simp) z
          · rw [pa] at nodup
            exact (List.nodup_append.mp nodup).2.2 q z q (by simp) rfl
        have plen : (P ++ done.flatMap fun x => post (q ++ [x.1]) x.2).length < 1000000 := by
          rw [pa] at hP
          simp only [List.length_append] at hP ⊢
          omega
        have ld : LD bd A q = loadT bd q (.arm l r s h done) := by simp [LD, sb]
        have tl : TL bd A q = tiltT bd q (.arm l r s h done) := by simp [TL, sb]
        have kk : ∀ (x1 x2 x3 : PO), (S4 base x1 x2 x3 (J ++ .lst ((bd q).map bpv ++ done.map (itemP bd q)) :: J1))[base.length + 3 + J.length]? = some (.lst ((bd q ++ done.map fun x => (x.1, loadT bd (q ++ [x.1]) x.2)).map bpv)) := fun x1 x2 x3 => by
          rw [S4_j, List.getElem?_append_right (Nat.le_refl _), Nat.sub_self, its]
          rfl
        have stn : ∀ (x1 x2 x3 : PO), D.stands (some (base.length + 3 + J.length)) ((bd q ++ done.map fun x => (x.1, loadT bd (q ++ [x.1]) x.2)).map bpv) (S4 base x1 x2 x3 (J ++ .lst ((bd q).map bpv ++ done.map (itemP bd q)) :: J1)) = true := fun x1 x2 x3 => by
          simp only [D.stands, kk, sameL_refl]
        have wk : ∀ (x1 x2 x3 : PO) (a b : Option PV), D.walk (D.var 3) (callN tbl m) [some (.ref base.length), some (Th.arm l r s h done).pv, some (ppv q), some (.ref (base.length + 3 + J.length)), a, b, none] (S4 base x1 x2 x3 (J ++ .lst ((bd q).map bpv ++ done.map (itemP bd q)) :: J1)) = .ok (((bd q ++ done.map fun x => (x.1, loadT bd (q ++ [x.1]) x.2)).map bpv), some (base.length + 3 + J.length)) (S4 base x1 x2 x3 (J ++ .lst ((bd q).map bpv ++ done.map (itemP bd q)) :: J1)) := fun x1 x2 x3 a b => walk_ref (by simp) (kk x1 x2 x3)
        simp only [SN]
        simp
        rw [lc_all bpv (fun b => PV.int b.2) (bd q ++ done.map fun x => (x.1, loadT bd (q ++ [x.1]) x.2)) (wk _ _ _ _ _) (stn _ _ _)]
        · have sumL : ((bd q ++ done.map fun x => (x.1, loadT bd (q ++ [x.1]) x.2)).map fun b => b.2).sum = LD bd A q := by
            rw [ld, load_arm, List.map_append, sum_append, List.map_map]
            rfl
          have sumT : ((bd q ++ done.map fun x => (x.1, loadT bd (q ++ [x.1]) x.2)).map fun b => b.1 * b.2).sum = TL bd A q := by
            rw [tl, tiltT, List.map_append, sum_append, List.map_map]
            rfl
          have el : (ents (LD bd A) (P ++ done.flatMap fun x => post (q ++ [x.1]) x.2)).length < 1000000 := by simpa only [ents, List.length_map] using plen
          have et : (ents (TL bd A) (P ++ done.flatMap fun x => post (q ++ [x.1]) x.2)).length < 1000000 := by simpa only [ents, List.length_map] using plen
          simp only [Res.bind_ok, deref_lst, sum_map, Res.of_some, sumL]
          rw [tsub_dic (n := base.length + 1) (k := ppv q) (attr_ok (by simp) S4_0 rfl) (by simp) S4_1 (keyT_ppv q) el, S4_set1, ents_put _ qn]
          simp only [Res.bind_ok]
          rw [lc_all bpv (fun b => PV.int (b.1 * b.2)) (bd q ++ done.map fun x => (x.1, loadT bd (q ++ [x.1]) x.2)) (wk _ _ _ _ _) (stn _ _ _)]
          · simp only [Res.bind_ok, deref_lst, sum_map, Res.of_some, sumT]
            rw [tsub_dic (n := base.length + 2) (k := ppv q) (attr_ok (by simp) S4_0 rfl) (by simp) S4_2 (keyT_ppv q) et, S4_set2, ents_put _ qn]
            simp only [Res.bind_ok]
            rw [attr_ok (v := .ref (base.length + 1)) (by simp) S4_0 rfl]
            have dl : ∀ (x1 x3 : PO) (J : Store) (kv : List (PV × PV)), deref (S4 base x1 (.dic true kv) x3 J) (.ref (base.length + 1)) = .dic true kv := fun x1 x3 J kv => by simp only [deref, S4_1]
            have fl : find (ppv q) (ents (LD bd A) (P ++ ((done.flatMap fun x => post (q ++ [x.1]) x.2) ++ [q]))) = some (.int (LD bd A q)) := by
              have := ents_find_last (LD bd A) qn
              rwa [List.append_assoc] at this
            simp [dl, fl, pa]
            exact ⟨ld, .lst ((bd q).map bpv ++ done.map (itemP bd q)) :: J1, rfl⟩
          · simp; omega
          · intro b hb
            have sm : O.small b.1 = true := by
              rcases List.mem_append.mp hb with z | z
              · exact b1 b z
              · obtain ⟨x, hx, rfl⟩ := List.mem_map.mp z
                have := (ok.2.2.2.2.2 x hx).1
                have := ok.1
                have := ok.2.1
                simp only [O.small, Bool.and_eq_true, decide_eq_true_eq]
                omega
            exact ⟨_, rfl, by simp [D.wipe, O.mulx, O.mul, sm]⟩
        · simp; omega
        · intro b hb
          exact ⟨_, rfl, by simp [D.wipe]⟩
    obtain ⟨σ', J', e⟩ := key
    exact ⟨J', fn_imp t_Seen_look rfl e rfl⟩

end Dn

namespace Dn
open PySem
theorem x_Seen_init (n) {t : Th} {s : Stand} (g : GoodArm t) (gs : GoodSt t s) (hn : 4 ≤ n) (base : Store) : ∃ J', callN tbl n i_Seenu__initu_ [.ref base.length, t.pv, spv s] (base ++ [.ins c_Seen []]) = .ok .non (SN base (kvsOf t s) (bdOf t s) t (post [] t) J') := by
  obtain ⟨m, rfl, hm⟩ := up hn
  cases t with
  | w k => cases g.a
  | arm l r sl h hs =>
    have few := g.few
    have pc := post_count 3 _ g.ok []
    obtain ⟨J', e⟩ := x_Seen_look base (kvsOf (.arm l r sl h hs) s) (bdOf (.arm l r sl h hs) s) (.arm l r sl h hs) 3 l r sl h hs [] g.ok (by omega) (by simp) rfl (fun p hp => ⟨kvs_find g gs hp, by have := (bd_small g gs hp).1; simp; omega, (bd_small g gs hp).2⟩) (fun _ _ => trivial) m hm [] [] (by simp; omega) (by simp)
    refine ⟨J', ?_⟩
    have e1 := fun st => x_paths_by m g hm st
    have dpl : D.pairs true ((((Th.arm l r sl h hs).paths.zip s)).map fun x => .tup [ppv x.1, bspv x.2]) [] = some (kvsOf (.arm l r sl h hs) s) := by
      have nd := gs.nodup g
      rw [List.Nodup, List.pairwise_map] at nd
      exact pairs_ok (fun x : Path × List Bead => ppv x.1) (fun x => bspv x.2) (fun x => by simp) _ (nd.imp fun h => by simpa using h)
    let bs := base
    have s1 : base ++ [PO.ins c_Seen [], PO.dic true [], PO.dic true []] = S4 base (.ins c_Seen []) (.dic true []) (.dic true []) [] := rfl
    have g1 : D.asg (D.tt [(D.tattr c_Seen (D.var 0) sLoads), (D.tattr c_Seen (D.var 0) sTilts)]) (D.tup (D.cons (D.fresh (D.dict true [])) (D.cons (D.fresh (D.dict true [])) D.nil))) (callN tbl m) [some (.ref base.length), some (Th.arm l r sl h hs).pv, some (spv s)] (base ++ [.ins c_Seen []]) =
        .ok (.nx, [some (.ref base.length), some (Th.arm l r sl h hs).pv, some (spv s)]) (S4 base (.ins c_Seen [(sLoads, .ref (base.length + 1)), (sTilts, .ref (base.length + 2))]) (.dic true []) (.dic true []) []) := by
      simp
      rw [s1, tattr_ok (n := base.length) (fs := []) (by simp) S4_0 (by simp), S4_set0]
      simp only [Res.bind_ok]
      rw [tattr_ok (n := base.length) (fs := fput sLoads (.ref (base.length + 1)) []) (by simp) S4_0 (by simp [fput]), S4_set0]
      rfl
    have g2 : D.asg (D.tattr c_Seen (D.var 0) sBeads) (D.op1 (O.dictOf true) (D.lzip (D.call i_paths_by (D.cons (D.var 1) D.nil)) (D.var 2))) (callN tbl m) [some (.ref base.length), some (Th.arm l r sl h hs).pv, some (spv s)] (S4 base (.ins c_Seen [(sLoads, .ref (base.length + 1)), (sTilts, .ref (base.length + 2))]) (.dic true []) (.dic true []) []) =
        .ok (.nx, [some (.ref base.length), some (Th.arm l r sl h hs).pv, some (spv s)]) (SN base (kvsOf (.arm l r sl h hs) s) (bdOf (.arm l r sl h hs) s) (.arm l r sl h hs) [] []) := by
      simp [D.lzip, e1, spv, zipP_pp, O.dictOf, dpl]
      rw [tattr_ok (n := base.length) (by simp) S4_0 (by simp), S4_set0]
      rfl
    have g3 : D.meth c_Seen i_Seen_look (⟨#[108, 111, 111, 107]⟩ : PySem.Str) (D.var 0) (D.cons (D.var 1) (D.cons (D.tup D.nil) D.nil)) [] (callN tbl m) [some (.ref base.length), some (Th.arm l r sl h hs).pv, some (spv s)] (SN base (kvsOf (.arm l r sl h hs) s) (bdOf (.arm l r sl h hs) s) (.arm l r sl h hs) [] []) = _ :=
      meth_ok (n := base.length) (fs := seenFs base.length (kvsOf (.arm l r sl h hs) s)) (vs := [(Th.arm l r sl h hs).pv, ppv []]) (st1 := SN base (kvsOf (.arm l r sl h hs) s) (bdOf (.arm l r sl h hs) s) (.arm l r sl h hs) [] []) (by simp) S4_0 rfl (by simp [ppv])
    simp only [List.append_nil, List.nil_append] at g3 e
    rw [e] at g3
    refine fn_imp t_Seenu__initu_ (fl := .nx) (σ' := [some (.ref base.length), some (Th.arm l r sl h hs).pv, some (spv s)]) rfl ?_ rfl
    simp only [b_Seenu__initu_, s_seq, start]
    rw [show ([PV.ref base.length, (Th.arm l r sl h hs).pv, spv s].map some ++ List.replicate (3 - [PV.ref base.length, (Th.arm l r sl h hs).pv, spv s].length) none) = [some (.ref base.length), some (Th.arm l r sl h hs).pv, some (spv s)] from rfl]
    rw [g1]
    simp only [Res.bind_ok]
    rw [g2]
    simp only [Res.bind_ok, s_expr]
    rw [g3]
    simp

theorem x_word_by (n) (l r s h : Int) (hs : List (Int × Th)) (k : Int) (st) : callN tbl (n + 1) i_word_by [(Th.arm l r s h hs).pv, .int k] st = .ok (.str (wordS s k)) st := by
  refine fn_ret t_word_by rfl (by simp) ?_ (by simp)
  have e : O.item (Th.arm l r s h hs).pv (.int 2) = some (.int s) := by simp [pv_arm, O.item, getL, ixP]
  simp [b_word_by, start, e, O.sub, O.lt, O.gt, wordS]
  by_cases h1 : k < -s
  · simp [h1]; rfl
  · by_cases h2 : s < k <;> simp [h1, h2, e, O.gt] <;> rfl

theorem x_words_by (n) {t : Th} {s : Stand} (g : GoodArm t) (gs : GoodSt t s) (hn : 5 ≤ n) (st) : callN tbl n i_words_by [t.pv, spv s] st = .ok (.dic true (wordsD t s)) st := by
  obtain ⟨m, rfl, hm⟩ := up hn
  obtain ⟨J', e⟩ := x_Seen_init m g gs hm []
  refine fn_ret t_words_by rfl (by simp) ?_ (by simp)
  have nw := new_ok (C := c_Seen) (f := i_Seenu__initu_) (es := D.cons (D.var 0) (D.cons (D.var 1) D.nil)) (dfl := []) (cs := callN tbl m) (σ := [some t.pv, some (spv s), none, none]) (st := []) (vs := [t.pv, spv s]) (st1 := []) (by simp) e
  simp only [b_words_by, s_seq, s_asg, start]
  rw [show ([t.pv, spv s].map some ++ List.replicate (4 - [t.pv, spv s].length) none) = [some t.pv, some (spv s), none, none] from rfl, nw]
  simp
  have few := g.few
  rw [dc_map ppv ppv (fun q => .str (WD (bdOf t s) t q)) (fun q => by simp) t.paths (nodup_pp (paths_nodup 3 t g.ok)) (walk_tup (by simp [x_paths_by m g (by omega)])) (by omega)]
  · simp [wordsD]
  · intro q hq
    obtain ⟨l, r, sl, h, hs, e3, e4⟩ := sub_paths 3 t g.ok q hq
    have e6 := x_arm_by m g q e3 (by omega)
    have at_ : D.attr c_Seen (D.var 2) sTilts (callN tbl m) [some t.pv, some (spv s), some (.ref 0), some (ppv q)] (SN [] (kvsOf t s) (bdOf t s) t (post [] t) J') = .ok (.ref 2) (SN [] (kvsOf t s) (bdOf t s) t (post [] t) J') := attr_ok (by simp) (S4_0 (base := [])) rfl
    have dr : deref (SN [] (kvsOf t s) (bdOf t s) t (post [] t) J') (.ref 2) = .dic true (ents (TL (bdOf t s) t) (post [] t)) := by
      have := S4_2 (base := []) (a := .ins c_Seen (seenFs 0 (kvsOf t s))) (b := .dic true (ents (LD (bdOf t s) t) (post [] t))) (c := .dic true (ents (TL (bdOf t s) t) (post [] t))) (J := J')
      simp only [List.length_nil, Nat.zero_add] at this
      simp only [deref, SN, List.length_nil, this]
    have fd := ents_find (TL (bdOf t s) t) (post_nodup 3 t g.ok []) (mem_post g hq)
    obtain ⟨m', rfl⟩ : ∃ k, m = k + 1 := ⟨m - 1, by omega⟩
    refine ⟨[some t.pv, some (spv s), some (.ref 0), some (ppv q)], by simp [D.wipe], by simp, ?_⟩
    simp [e6, at_, dr, O.item, fd, x_word_by, WD, e3]

end Dn

namespace Dn
open PySem
theorem x_need_place_of (n) {t : Th} {s : Stand} (g : GoodArm t) (gs : GoodSt t s) {q : Path} (hq : q ∈ t.paths) (hn : 10 ≤ n) (st) : callN tbl n i_need_place_of [t.pv, spv s, ppv q] st = .ok .non st := by
  obtain ⟨m, rfl, hm⟩ := up hn
  refine fn_non t_need_place_of rfl (by simp) ?_
  simp [b_need_place_of, start, x_need_standing m g gs hm, x_need_path m g hq hm]

theorem x_load (n) {t : Th} {s : Stand} (g : GoodArm t) (gs : GoodSt t s) {q : Path} (hq : q ∈ t.paths) (hn : 11 ≤ n) (st) : callN tbl n i_load [t.pv, spv s, ppv q] st = .ok (.int (LD (bdOf t s) t q)) st := by
  obtain ⟨m, rfl, hm⟩ := up hn
  obtain ⟨J', e⟩ := x_Seen_init m g gs (by omega) []
  refine fn_ret t_load rfl (by simp) ?_ (by simp)
  have nw := new_ok (C := c_Seen) (f := i_Seenu__initu_) (es := D.cons (D.var 0) (D.cons (D.var 1) D.nil)) (dfl := []) (cs := callN tbl m) (σ := [some t.pv, some (spv s), some (ppv q)]) (st := []) (vs := [t.pv, spv s]) (st1 := []) (by simp) e
  have at_ : D.attr c_Seen (D.new c_Seen i_Seenu__initu_ (D.cons (D.var 0) (D.cons (D.var 1) D.nil)) []) sLoads (callN tbl m) [some t.pv, some (spv s), some (ppv q)] [] = .ok (.ref 1) (SN [] (kvsOf t s) (bdOf t s) t (post [] t) J') := by
    unfold D.attr
    rw [nw]
    have := S4_0 (base := []) (a := .ins c_Seen (seenFs 0 (kvsOf t s))) (b := .dic true (ents (LD (bdOf t s) t) (post [] t))) (c := .dic true (ents (TL (bdOf t s) t) (post [] t))) (J := J')
    simp only [List.length_nil] at this
    simp only [Res.bind_ok, SN, List.length_nil, this]
    rfl
  have dr : deref (SN [] (kvsOf t s) (bdOf t s) t (post [] t) J') (.ref 1) = .dic true (ents (LD (bdOf t s) t) (post [] t)) := by
    have := S4_1 (base := []) (a := .ins c_Seen (seenFs 0 (kvsOf t s))) (b := .dic true (ents (LD (bdOf t s) t) (post [] t))) (c := .dic true (ents (TL (bdOf t s) t) (post [] t))) (J := J')
    simp only [List.length_nil, Nat.zero_add] at this
    simp only [deref, SN, List.length_nil, this]
  have fd := ents_find (LD (bdOf t s) t) (post_nodup 3 t g.ok []) (mem_post g hq)
  simp [b_load, start, x_need_place_of m g gs hq hm, at_, dr, O.item, fd]

theorem x_tilt (n) {t : Th} {s : Stand} (g : GoodArm t) (gs : GoodSt t s) {q : Path} (hq : q ∈ t.paths) (hn : 11 ≤ n) (st) : callN tbl n i_tilt [t.pv, spv s, ppv q] st = .ok (.int (TL (bdOf t s) t q)) st := by
  obtain ⟨m, rfl, hm⟩ := up hn
  obtain ⟨J', e⟩ := x_Seen_init m g gs (by omega) []
  refine fn_ret t_tilt rfl (by simp) ?_ (by simp)
  have nw := new_ok (C := c_Seen) (f := i_Seenu__initu_) (es := D.cons (D.var 0) (D.cons (D.var 1) D.nil)) (dfl := []) (cs := callN tbl m) (σ := [some t.pv, some (spv s), some (ppv q)]) (st := []) (vs := [t.pv, spv s]) (st1 := []) (by simp) e
  have at_ : D.attr c_Seen (D.new c_Seen i_Seenu__initu_ (D.cons (D.var 0) (D.cons (D.var 1) D.nil)) []) sTilts (callN tbl m) [some t.pv, some (spv s), some (ppv q)] [] = .ok (.ref 2) (SN [] (kvsOf t s) (bdOf t s) t (post [] t) J') := by
    unfold D.attr
    rw [nw]
    have := S4_0 (base := []) (a := .ins c_Seen (seenFs 0 (kvsOf t s))) (b := .dic true (ents (LD (bdOf t s) t) (post [] t))) (c := .dic true (ents (TL (bdOf t s) t) (post [] t))) (J := J')
    simp only [List.length_nil] at this
    simp only [Res.bind_ok, SN, List.length_nil, this]
    rfl
  have dr : deref (SN [] (kvsOf t s) (bdOf t s) t (post [] t) J') (.ref 2) = .dic true (ents (TL (bdOf t s) t) (post [] t)) := by
    have := S4_2 (base := []) (a := .ins c_Seen (seenFs 0 (kvsOf t s))) (b := .dic true (ents (LD (bdOf t s) t) (post [] t))) (c := .dic true (ents (TL (bdOf t s) t) (post [] t))) (J := J')
    simp only [List.length_nil, Nat.zero_add] at this
    simp only [deref, SN, List.length_nil, this]
  have fd := ents_find (TL (bdOf t s) t) (post_nodup 3 t g.ok []) (mem_post g hq)
  simp [b_tilt, start, x_need_place_of m g gs hq hm, at_, dr, O.item, fd]

theorem x_word (n) {t : Th} {s : Stand} (g : GoodArm t) (gs : GoodSt t s) {q : Path} (hq : q ∈ t.paths) (hn : 11 ≤ n) (st) : callN tbl n i_word [t.pv, spv s, ppv q] st = .ok (.str (WD (bdOf t s) t q)) st := by
  obtain ⟨m, rfl, hm⟩ := up hn
  refine fn_ret t_word rfl (by simp) ?_ (by simp)
  simp [b_word, start, x_need_place_of m g gs hq hm, x_words_by m g gs (by omega), O.item, words_find g s hq]

end Dn

namespace Dn
open PySem
theorem x_law_paths' : ∀ (d : Nat) (l r s h : Int) (hs : List (Int × Th)), Ok d (.arm l r s h hs) → (Th.arm l r s h hs).paths.length ≤ 1000 → d ≤ 49 → ∀ n, d ≤ n → ∀ st, callN tbl n i__law_paths [(Th.arm l r s h hs).pv] st = .ok (.lst ((Th.arm l r s h hs).paths.map ppv)) st
  | 0, _, _, _, _, _, ok, _, _, _, _, _ => (show False from ok).elim
  | d + 1, l, r, s, h, hs, ok, few, hd, n, hn, st => by
    obtain ⟨m, rfl, hm⟩ := up hn
    have few' : ∀ x ∈ hs, x.2.paths.length ≤ 1000 := fun x hx => paths_few few hx
    have ps := paths_arm l r s h hs
    refine fn_ret t__law_paths rfl (by simp) ?_ (by simp [plainL_map])
    simp [b__law_paths, start]
    refine for_then (G := fun r => fin (Res.bind r _) = _) hpv hs none (fun M σ st => ∃ acc a b c, acc ++ M.flatMap (fun x => x.2.paths.map (x.1 :: ·)) = (Th.arm l r s h hs).paths ∧ (∀ x ∈ M, x ∈ hs) ∧ σ = [some (Th.arm l r s h hs).pv, some (.lst (acc.map ppv)), a, b, c])
      (walk_tup (by simp [pv_arm, deref, O.item, getL, ixP])) (fun _ _ _ _ => rfl) ⟨[[]], none, none, none, by rw [ps]; rfl, fun _ z => z, rfl⟩ ?_ ?_
    · rintro x M σ st ⟨acc, a, b, c, e1, hM, rfl⟩
      have hx := hM x List.mem_cons_self
      obtain ⟨p, t⟩ := x
      cases t with
      | w k =>
        refine ⟨.nx, [some (Th.arm l r s h hs).pv, some (.lst (acc.map ppv)), some (.int p), some (.int k), c], st, ?_, .inl rfl, acc, _, _, _, ?_, fun y hy => hM y (List.mem_cons_of_mem _ hy), rfl⟩
        · simp [hpv, pv_w, O.isTup]
        · simpa [paths_w] using e1
      | arm l' r' s' h' hs' =>
        have ok' := (ok.2.2.2.2.2 _ hx).2
        have f' := few' _ hx
        have ih := x_law_paths' d l' r' s' h' hs' ok' f' (by omega) m hm
        have tot : acc.length + (Th.arm l' r' s' h' hs').paths.length ≤ 1000 := by
          have := congrArg List.length e1
          simp only [List.length_append, List.flatMap_cons, List.length_map] at this
          omega
        refine ⟨.nx, [some (Th.arm l r s h hs).pv, some (.lst ((acc ++ (Th.arm l' r' s' h' hs').paths.map (p :: ·)).map ppv)), some (.int p), some (Th.arm l' r' s' h' hs').pv, c], st, ?_, .inl rfl, acc ++ (Th.arm l' r' s' h' hs').paths.map (p :: ·), _, _, _, ?_, fun y hy => hM y (List.mem_cons_of_mem _ hy), rfl⟩
        · have isT : O.isTup (Th.arm l' r' s' h' hs').pv = some (.bl true) := by rw [pv_arm]; rfl
          simp [hpv, isT]
          rw [lc_all ppv (fun q => ppv (p :: q)) (Th.arm l' r' s' h' hs').paths (src := none)]
          · have : acc.length + (Th.arm l' r' s' h' hs').paths.length ≤ 1000000 := by omega
            simp [O.add, this]
          · exact walk_lst (by simp [ih])
          · rfl
          · omega
          · intro q hq
            refine ⟨_, rfl, ?_⟩
            have := path_len d _ ok' q hq
            simp [D.wipe, ppv, O.add]
            rw [if_pos (by omega)]
            rfl
        · simpa using e1
    · rintro σ' st' ⟨acc, a, b, c, e1, _, rfl⟩
      simp only [List.flatMap_nil, List.append_nil] at e1
      subst e1
      have so : sortP ((Th.arm l r s h hs).paths.map ppv) = (Th.arm l r s h hs).paths.map ppv := sortP_id (List.pairwise_map.mpr ((paths_rise (d + 1) _ ok).imp fun h => by rw [lt_ppv]; exact h))
      have hl := hasL_map (s := .row .int) has_ppv (Th.arm l r s h hs).paths
      have : (Th.arm l r s h hs).paths.length ≤ 1000000 := by omega
      simp [O.sortx, hl, so, this, Sh.deep]
theorem x_law_paths (n) {t : Th} (g : GoodArm t) (hn : 3 ≤ n) (st) : callN tbl n i__law_paths [t.pv] st = .ok (.lst (t.paths.map ppv)) st := by
  cases t with
  | w k => cases g.a
  | arm l r s h hs => exact x_law_paths' 3 l r s h hs g.ok (by have := g.few; omega) (by omega) n hn st

theorem x_law_at' (n) (d : Nat) {t u : Th} (ok : Ok d t) (q : Path) (e : t.sub q = some u) (st) : callN tbl (n + 1) i__law_at [t.pv, ppv q] st = .ok u.pv st := by
  refine fn_ret t__law_at rfl (by simp) ?_ (by simp)
  simp [b__law_at, start]
  refine for_then (G := fun r => fin (Res.bind r _) = _) PV.int q none (fun M σ st => ∃ v d a b c, Ok d v ∧ v.sub M = some u ∧ σ = [some v.pv, some (ppv q), a, b, c])
    (walk_tup (by simp [ppv])) (fun _ _ _ _ => rfl) ⟨t, d, none, none, none, ok, e, rfl⟩ ?_ ?_
  · rintro p M σ st ⟨v, d, a, b, c, ok, e, rfl⟩
    cases v with
    | w k => simp [Th.sub] at e
    | arm l r s h hs =>
      cases d with
      | zero => exact (show False from ok).elim
      | succ d =>
        simp only [Th.sub] at e
        obtain ⟨v, e1, e2⟩ := Option.bind_eq_some_iff.mp e
        refine ⟨.nx, [some v.pv, some (ppv q), some (.int p), b, c], st, ?_, .inl rfl, v, d, _, _, _, (ok.2.2.2.2.2 _ (look_some e1)).2, e2, rfl⟩
        have nd := rise_nodup ok.2.2.2.2.1
        have len := ok_len ok
        have fl := look_filter nd e1
        simp
        rw [lc_map hpv (fun x => x.2.pv) (fun x => decide (x.1 = p)) hs (src := none)]
        · simp [fl, O.item, getL, ixP]
        · exact walk_tup (by simp [pv_arm, deref, O.item, getL, ixP])
        · rfl
        · omega
        · intro x hx
          exact ⟨_, rfl, by simp [D.tests, D.wipe, hpv, O.eq, eqP], fun _ => by simp [D.wipe, hpv]⟩
  · rintro σ st ⟨v, d, a, b, c, ok, e, rfl⟩
    simp only [Th.sub, Option.some.injEq] at e
    subst e
    simp
theorem x_law_at (n) {t u : Th} (g : GoodArm t) (q : Path) (e : t.sub q = some u) (hn : 1 ≤ n) (st) : callN tbl n i__law_at [t.pv, ppv q] st = .ok u.pv st := by
  obtain ⟨m, rfl, hm⟩ := up hn
  exact x_law_at' m 3 g.ok q e st

end Dn

namespace Dn
open PySem
theorem x_law_load (n) {t u : Th} {s : Stand} (g : GoodArm t) (gs : GoodSt t s) {q : Path} (e : t.sub q = some u) (hu : u.isA = true) (hn : 4 ≤ n) (st) : callN tbl n i__law_load [t.pv, spv s, ppv q] st = .ok (.int (loadT (bdOf t s) q u)) st := by
  obtain ⟨m, rfl, hm⟩ := up hn
  refine fn_ret t__law_load rfl (by simp) ?_ (by simp)
  simp [b__law_load, start]
  have su := sum_own 3 t u (bdOf t s) q (sub_ok 3 t g.ok q e) e hu
  rw [← paths_under 3 t g.ok q e hu] at su
  refine for_then (G := fun r => fin (Res.bind r _) = _) (fun x : Path × List Bead => .tup [ppv x.1, bspv x.2]) (t.paths.zip s) none (st1 := []) (fun M σ st => ∃ (acc : Int) (a b c d e : Option PV), acc + (((M.map (·.1)).filter (fun o => decide (o.take q.length = q))).map (own (bdOf t s) t)).sum = loadT (bdOf t s) q u ∧ (∀ x ∈ M, x ∈ t.paths.zip s) ∧ σ = [some t.pv, some (spv s), some (ppv q), some (.int acc), a, b, c, d, e])
    (by
      rw [← zipP_pp]
      exact zipM_ok (st1 := []) (by simp [x_law_paths m g (by omega)]) (by simp [spv])) (fun _ _ _ _ => rfl) ⟨0, none, none, none, none, none, by rw [zip_fst gs.len, su]; omega, fun _ z => z, rfl⟩ ?_ ?_
  · rintro x M σ st ⟨acc, a, b, c, d, f, e1, hM, rfl⟩
    have hx := hM x List.mem_cons_self
    obtain ⟨o, bs⟩ := x
    have ho : o ∈ t.paths := (List.of_mem_zip hx).1
    have hb : bdOf t s o = bs := lk_mem (gs.nodup g) _ hx
    obtain ⟨l, r, sl, h, hs, s1, s2⟩ := sub_paths 3 t g.ok o ho
    have sm := bd_small g gs ho
    rw [hb] at sm
    have at_ := x_law_at m g o s1 (by omega)
    have len := few_hs s2
    simp only [List.map_cons, List.filter_cons] at e1
    by_cases hq : o.take q.length = q
    · rw [if_pos (by simpa using hq)] at e1
      have ow : own (bdOf t s) t o = (bs.map (·.2)).sum + ((hs.filter fun x => !x.2.isA).map valW).sum := by simp [own, s1, hb, hangs_arm]
      rw [List.map_cons, List.sum_cons, ow] at e1
      refine ⟨.nx, [some t.pv, some (spv s), some (ppv q), some (.int (acc + (bs.map (·.2)).sum + ((hs.filter fun x => !x.2.isA).map valW).sum)), some (ppv o), some (bspv bs), c, d, f], st, ?_, .inl rfl, _, _, _, _, _, _, by rw [← e1]; omega, fun y hy => hM y (List.mem_cons_of_mem _ hy), rfl⟩
      have sl1 := slice_path o q.length
      have ql : O.len (ppv q) = some (.int q.length) := by simp [ppv, O.len]
      simp [ql, sl1, eq_path, hq]
      rw [lc_all bpv (fun b => .int b.2) bs (src := none) (walk_tup (by simp [bspv])) rfl (by omega) (fun b _ => ⟨_, rfl, by simp [D.wipe, bpv]⟩)]
      simp [O.add]
      rw [lc_map hpv (fun x => .int (valW x)) (fun x => !x.2.isA) hs (src := none)]
      · simp [O.add]
      · exact walk_tup (by simp [at_, pv_arm, O.item, getL, ixP])
      · rfl
      · omega
      · intro x hx
        refine ⟨_, rfl, by simp [D.tests, D.wipe, hpv, isInt_pv], fun hx => ?_⟩
        obtain ⟨p, v⟩ := x
        cases v with
        | arm => simp [Th.isA] at hx
        | w n => simp [D.wipe, hpv, pv_w, valW]
    · rw [if_neg (by simpa using hq)] at e1
      refine ⟨.nx, [some t.pv, some (spv s), some (ppv q), some (.int acc), some (ppv o), some (bspv bs), c, d, f], st, ?_, .inl rfl, _, _, _, _, _, _, e1, fun y hy => hM y (List.mem_cons_of_mem _ hy), rfl⟩
      have sl1 := slice_path o q.length
      have ql : O.len (ppv q) = some (.int q.length) := by simp [ppv, O.len]
      simp [ql, sl1, eq_path, hq]
  · rintro σ st ⟨acc, a, b, c, d, f, e1, _, rfl⟩
    simp at e1
    subst e1
    simp

end Dn

namespace Dn
open PySem
theorem x_law_tilt (n) {t : Th} {s : Stand} (g : GoodArm t) (gs : GoodSt t s) {q : Path} (hq : q ∈ t.paths) (hn : 5 ≤ n) (st) : callN tbl n i__law_tilt [t.pv, spv s, ppv q] st = .ok (.int (TL (bdOf t s) t q)) st := by
  obtain ⟨m, rfl, hm⟩ := up hn
  refine fn_ret t__law_tilt rfl (by simp) ?_ (by simp)
  obtain ⟨l, r, sl, h, hs, s1, s2⟩ := sub_paths 3 t g.ok q hq
  have at_ := x_law_at m g q s1 (by omega)
  obtain ⟨i, ix, gt⟩ := index_path hq
  have sm := bd_small g gs hq
  have sg := st_get g gs gt
  have it : O.item (spv s) (.int i) = some (bspv (bdOf t s q)) := by
    simp only [spv, O.item]
    exact getL_nat (by simp [sg])
  have len := few_hs s2
  have tl : TL (bdOf t s) t q = ((bdOf t s q).map fun b => b.1 * b.2).sum + (hs.map fun x => x.1 * loadT (bdOf t s) (q ++ [x.1]) x.2).sum := by
    simp only [TL, s1, tiltT]
  simp [b__law_tilt, start, at_]
  have di : D.index (D.call i__law_paths (D.cons (D.var 0) D.nil)) (D.var 2) (callN tbl m) [some t.pv, some (spv s), some (ppv q), none, none, none, none, none, none] [] = .ok (.int i) [] := by
    unfold D.index
    simp [x_law_paths m g (by omega), D.lstV, ix]
  simp [di, it]
  rw [lc_all bpv (fun b => .int (b.1 * b.2)) (bdOf t s q) (src := none) (walk_tup (by simp [bspv])) rfl (by omega) (fun b hb => ⟨_, rfl, by simp [D.wipe, bpv, O.mulx, O.mul, sm.2 b hb]⟩)]
  simp
  refine for_then (G := fun r => fin (Res.bind r _) = _) hpv hs none (fun M σ st => ∃ (acc : Int) (a b c : Option PV), acc + (M.map fun x => x.1 * loadT (bdOf t s) (q ++ [x.1]) x.2).sum = TL (bdOf t s) t q ∧ (∀ x ∈ M, x ∈ hs) ∧ σ = [some t.pv, some (spv s), some (ppv q), some (.int acc), some (Th.arm l r sl h hs).pv, some (bspv (bdOf t s q)), a, b, c])
    (walk_tup (by simp [pv_arm, deref, O.item, getL, ixP])) (fun _ _ _ _ => rfl) ⟨_, none, none, none, tl.symm, fun _ z => z, rfl⟩ ?_ ?_
  · rintro x M σ st ⟨acc, a, b, c, e1, hM, rfl⟩
    have hx := hM x List.mem_cons_self
    obtain ⟨p, v⟩ := x
    have bd := (s2.2.2.2.2.2 _ hx).1
    have l3 := s2.1
    have r3 := s2.2.1
    simp only at bd
    have sp : O.small p = true := by
      simp only [O.small, Bool.and_eq_true, decide_eq_true_eq]
      omega
    rw [List.map_cons, List.sum_cons] at e1
    refine ⟨.nx, [some t.pv, some (spv s), some (ppv q), some (.int (acc + p * loadT (bdOf t s) (q ++ [p]) v)), some (Th.arm l r sl h hs).pv, some (bspv (bdOf t s q)), some (.int p), some v.pv, c], st, ?_, .inl rfl, _, _, _, _, by rw [← e1]; simp only; omega, fun y hy => hM y (List.mem_cons_of_mem _ hy), rfl⟩
    cases v with
    | w k => simp [hpv, pv_w, O.isInt, mulx_ii sp, add_ii, load_w]
    | arm l' r' s' h' hs' =>
      have s3 : t.sub (q ++ [p]) = some (.arm l' r' s' h' hs') := by
        rw [sub_append t q [p] s1]
        simp only [Th.sub, look_mem (rise_nodup s2.2.2.2.2.1) hx, Option.bind_some]
      have ql := path_len 3 t g.ok q hq
      have ad : O.add (ppv q) (.tup [.int p]) = some (ppv (q ++ [p])) := by
        simp only [ppv, O.add, List.length_map, List.length_cons, List.length_nil]
        rw [if_pos (by omega)]
        simp
      simp [hpv, ad, x_law_load m g gs s3 rfl (by omega), mulx_ii sp, add_ii]
  · rintro σ st ⟨acc, a, b, c, e1, _, rfl⟩
    simp at e1
    subst e1
    simp
theorem word_law {sl t : Int} (h : 0 ≤ sl) : wordS sl t = if (if t < 0 then -t else t) ≤ sl then sLevel else if 0 < t then sRight else sLeft := by
  unfold wordS
  by_cases h1 : t < 0
  · rw [if_pos h1]
    by_cases h2 : -t ≤ sl
    · rw [if_pos h2, if_neg (by omega), if_neg (by omega)]
    · rw [if_neg h2, if_pos (by omega), if_neg (by omega)]
  · rw [if_neg h1]
    by_cases h2 : t ≤ sl
    · rw [if_pos h2, if_neg (by omega), if_neg (by omega)]
    · rw [if_neg h2, if_neg (by omega), if_pos (by omega), if_pos (by omega)]
theorem x_law_word (n) {t : Th} {s : Stand} (g : GoodArm t) (gs : GoodSt t s) {q : Path} (hq : q ∈ t.paths) (hn : 6 ≤ n) (st) : callN tbl n i__law_word [t.pv, spv s, ppv q] st = .ok (.str (WD (bdOf t s) t q)) st := by
  obtain ⟨m, rfl, hm⟩ := up hn
  refine fn_ret t__law_word rfl (by simp) ?_ (by simp)
  obtain ⟨l, r, sl, h, hs, s1, s2⟩ := sub_paths 3 t g.ok q hq
  have at_ := x_law_at m g q s1 (by omega)
  have wd : WD (bdOf t s) t q = wordS sl (TL (bdOf t s) t q) := by simp only [WD, s1]
  rw [wd, word_law s2.2.2.1.1]
  simp [b__law_word, start, at_, x_law_tilt m g gs hq (by omega)]
  generalize TL (bdOf t s) t q = T
  simp [pv_arm, O.item, getL, ixP, O.abs, O.le, O.gt]
  by_cases h1 : (if T < 0 then -T else T) ≤ sl
  · simp [h1]; rfl
  · by_cases h2 : 0 < T <;> simp [h1, h2] <;> rfl

end Dn

namespace Dn
open PySem
theorem x_law_same (n) {xs : List PV} (h : Shown 60 10000000 (.lst xs)) (hp : plainL xs = true) (hn : 1 ≤ n) (st) : callN tbl n i__law_same [.lst xs, .lst xs] st = .ok (.bl true) st := by
  obtain ⟨m, rfl, hm⟩ := up hn
  refine fn_ret t__law_same rfl (by simp [hp]) ?_ (by simp)
  have h1 := h.repr
  have h2 := h.eq
  simp [b__law_same, start, h1, h2]
theorem x_law_sameT (n) {xs : List PV} (h : Shown 60 10000000 (.tup xs)) (hp : plainL xs = true) (hn : 1 ≤ n) (st) : callN tbl n i__law_same [.tup xs, .tup xs] st = .ok (.bl true) st := by
  obtain ⟨m, rfl, hm⟩ := up hn
  refine fn_ret t__law_same rfl (by simp [hp]) ?_ (by simp)
  have h1 := h.repr
  have h2 := h.eq
  simp [b__law_same, start, h1, h2]

end Dn

namespace Dn
open PySem
theorem x_law_cell_at (n) (xs : List Int) (i : Nat) (hn : 1 ≤ n) (st) : ∃ v : Int, callN tbl n i__law_cell_at [.scr xs, .int i] st = .ok (.int v) st := by
  obtain ⟨j, rfl, hm⟩ := up hn
  by_cases h : i < xs.length
  · refine ⟨xs[i], fn_ret t__law_cell_at rfl (by simp) ?_ (by simp)⟩
    have g := getL_nat (xs := xs.map PV.int) (i := i) (v := .int xs[i]) (by simp [h])
    have h' : ((i : Int) < (xs.length : Int)) := by omega
    simp [b__law_cell_at, start, O.len, O.lt, h', O.item, g]
  · refine ⟨0, fn_ret t__law_cell_at rfl (by simp) ?_ (by simp)⟩
    have h' : ¬ ((i : Int) < (xs.length : Int)) := by omega
    simp [b__law_cell_at, start, O.len, O.lt, h']

theorem x_law_pen (n) (v : Int) (hn : 1 ≤ n) (st : Store) : ∃ (a b : Int), callN tbl n i__law_pen [.int v] st = .ok (.ref st.length) (st ++ [.lst [.int a, .int b, .int 0]]) := by
  obtain ⟨j, rfl, hm⟩ := up hn
  suffices key : ∃ w st', callN tbl (j + 1) i__law_pen [.int v] st = .ok w st' ∧ ∃ (a b : Int), w = .ref st.length ∧ st' = st ++ [.lst [.int a, .int b, .int 0]] by
    obtain ⟨w, st', h, a, b, rfl, rfl⟩ := key
    exact ⟨a, b, h⟩
  refine fn_rets (n := j) (vs := [.int v]) (st := st) t__law_pen (fun w st' => ∃ (a b : Int), w = .ref st.length ∧ st' = st ++ [.lst [.int a, .int b, .int 0]]) rfl fun Q hQ => ?_
  simp [b__law_pen, start, O.max2, O.sub, O.pow, O.mod, O.add, O.small]
  exact rets (hQ _ _ ⟨_, _, rfl, rfl⟩)

theorem x_law_draw (n) {p : Nat} {m : Int} (hm : 0 < m) (hm2 : m < 1073741824) (hn : 1 ≤ n) {st : Store} (pen : Pen st p) : ∃ (k : Int) (st' : Store), callN tbl n i__law_draw [.ref p, .int m] st = .ok (.int k) st' ∧ (0 ≤ k ∧ k < m) ∧ Step p st st' := by
  obtain ⟨j, rfl, hn⟩ := up hn
  have s0 := Step.refl pen
  have lt := pen.lt
  obtain ⟨a, b, c, e⟩ := pen
  suffices key : ∃ v st', callN tbl (j + 1) i__law_draw [.ref p, .int m] st = .ok v st' ∧ ∃ k : Int, v = .int k ∧ (0 ≤ k ∧ k < m) ∧ Step p st st' by
    obtain ⟨v, st', h1, k, rfl, h2, h3⟩ := key
    exact ⟨k, st', h1, h2, h3⟩
  refine fn_rets t__law_draw (fun v st' => ∃ k : Int, v = .int k ∧ (0 ≤ k ∧ k < m) ∧ Step p st st') rfl fun Q hQ => ?_
  have d0 := deref_at e
  by_cases ha : 0 < a
  · simp [b__law_draw, g_tsub, start, d0, item0, gt_ii, ha, mod_ii hm, fdiv_ii hm hm2, store0 e]
    exact rets (hQ _ _ ⟨_, rfl, mod_in hm, s0.at (a / m) b c⟩)
  · have e1 : (st.set p (.lst [.int a, .int b, .int (c + 1)]))[p]? = some (.lst [.int a, .int b, .int (c + 1)]) := get_set lt
    generalize hb : (b * 48271 + 1009 * (c + 1) + 7) % 2147483647 = b'
    have sb : O.small b' = true := hb ▸ small_mod (by decide) (by decide)
    have e2 : (st.set p (.lst [.int a, .int b', .int (c + 1)]))[p]? = some (.lst [.int a, .int b', .int (c + 1)]) := get_set lt
    have s1 : O.small ((b' * b' + 69621 * b' + 11) % 2147483629) = true := small_mod (by decide) (by decide)
    have k1 := mulx_r (b := 48271) (by decide) b
    have k2 := mulx_ii (a := 1009) (by decide) (c + 1)
    have k3 := mulx_ii (a := 69621) (by decide) b'
    have k4 := mulx_ii (a := 40014) (by decide) ((b' * b' + 69621 * b' + 11) % 2147483629)
    have m1 := fun a => mod_ii (b := 2147483647) (by decide) a
    have m2 := fun a => mod_ii (b := 2147483629) (by decide) a
    have m3 := fun a => mod_ii (b := 2147483587) (by decide) a
    have f1 := fun a => fdiv_ii (b := 16) (by decide) (by decide) a
    simp [b__law_draw, g_tsub, start, d0, item0, item1, item2, gt_ii, ha, add_ii, store2 e, deref_at e1, k1, k2, m1, hb, store1 e1, deref_at e2, mulx_ii sb, k3, m2, mulx_ii s1, k4, m3, f1, mod_ii hm]
    exact rets (hQ _ _ ⟨_, rfl, mod_in hm, s0.at a b' (c + 1)⟩)

end Dn

namespace Dn
open PySem
theorem x_law_beads (n) {p : Nat} {l r sl h most : Int} {hs} (ok : Ok 3 (.arm l r sl h hs)) (hm : 1 ≤ most ∧ most ≤ 3) (hn : 2 ≤ n) {st : Store} (pen : Pen st p) : ∃ (bs : List Bead) (st' : Store), callN tbl n i__law_beads [.ref p, (Th.arm l r sl h hs).pv, .int most] st = .ok (bspv bs) st' ∧ BeadsOk l r h bs ∧ Step p st st' := by
  obtain ⟨j, rfl, hn⟩ := up hn
  suffices key : ∃ w st', callN tbl (j + 1) i__law_beads [.ref p, (Th.arm l r sl h hs).pv, .int most] st = .ok w st' ∧ ∃ bs : List Bead, w = bspv bs ∧ BeadsOk l r h bs ∧ Step p st st' by
    obtain ⟨w, st', h1, bs, rfl, h2⟩ := key
    exact ⟨bs, st', h1, h2⟩
  refine fn_rets (n := j) (vs := [.ref p, (Th.arm l r sl h hs).pv, .int most]) (st := st) t__law_beads (fun w st' => ∃ bs : List Bead, w = bspv bs ∧ BeadsOk l r h bs ∧ Step p st st') rfl fun Q hQ => ?_
  have l3 := ok.1
  have r3 := ok.2.1
  have h3 := ok.2.2.2.1
  obtain ⟨k, st1, d1, b1, s1⟩ := x_law_draw j (m := 1 + (if most < h then most else h)) (by split <;> omega) (by split <;> omega) (by omega) pen
  have kh : k ≤ h ∧ k ≤ 3 := by
    have := b1.2
    split at this <;> omega
  have st2 := lc_step (own := [9]) (it := D.range1 (D.var 3)) (tg := D.tn 9) (e := (D.tup (D.cons (D.op2 O.sub (D.call i__law_draw (D.cons (D.var 0) (D.cons (D.op2 O.add (D.op2 O.add (D.var 4) (D.var 5)) (D.c (.int 1))) D.nil))) (D.var 4)) (D.cons (D.op2 O.add (D.c (.int 1)) (D.call i__law_draw (D.cons (D.var 0) (D.cons (D.c (.int 3)) D.nil)))) D.nil)))) (c := callN tbl j) (σ := [some (.ref p), some (Th.arm l r sl h hs).pv, some (.int most), some (.int k), some (.int l), some (.int r), some (.int sl), some (.int h), some (.tup (hs.map hpv)), none]) (st := st1) (st0 := st1) (p := p) (fun i : Nat => PV.int i) bpv (fun _ b => (-l ≤ b.1 ∧ b.1 ≤ r) ∧ 1 ≤ b.2 ∧ b.2 ≤ 3) (List.range k.toNat) (range1_ok (by simp) (by omega) (by omega)) (Step.refl s1.pen) (by simp; omega) (by
    intro i hi st pen
    obtain ⟨k1, sa, e1, c1, f1⟩ := x_law_draw j (m := l + r + 1) (by omega) (by omega) (by omega) pen
    obtain ⟨k2, sb, e2, c2, f2⟩ := x_law_draw j (m := 3) (by omega) (by omega) (by omega) f1.pen
    exact ⟨_, rfl, (k1 - l, 1 + k2), sb, by simp [D.wipe, add_ii, sub_ii, e1, e2, bpv], by simp only; omega, f1.trans f2⟩)
  obtain ⟨zs, st2, e2, len, hz, s2⟩ := st2
  rw [List.length_range] at len
  have hl := hasL_map has_bpv zs
  have zl : zs.length ≤ 1000000 := by omega
  simp [b__law_beads, start, pv_arm, O.min2, add_ii, d1]
  rw [← pv_arm, e2]
  simp [O.sortx, hl, zl, Sh.deep, sortP_beads, O.tuple]
  refine rets (hQ _ _ ⟨sortB zs, rfl, ⟨?_, ?_, sortB_sorted zs⟩, s1.trans s2⟩)
  · rw [(sortB_perm zs).length_eq]
    omega
  · intro b hb
    have hb := (sortB_perm zs).mem_iff.mp hb
    obtain ⟨x, hx⟩ : ∃ x, (x, b) ∈ (List.range k.toNat).zip zs := by
      obtain ⟨i, hi, e⟩ := List.mem_iff_getElem.mp hb
      exact ⟨(List.range k.toNat)[i]'(by rw [List.length_range]; omega), List.mem_iff_getElem.mpr ⟨i, by simp; omega, by simp [e]⟩⟩
    exact hz _ hx

theorem x_law_standing (n) {p : Nat} {t : Th} {most : Int} (g : GoodArm t) (hm : 1 ≤ most ∧ most ≤ 3) (hn : 6 ≤ n) {st : Store} (pen : Pen st p) : ∃ (s : Stand) (st' : Store), callN tbl n i__law_standing [.ref p, t.pv, .int most] st = .ok (spv s) st' ∧ GoodSt t s ∧ Step p st st' := by
  obtain ⟨j, rfl, hn⟩ := up hn
  suffices key : ∃ w st', callN tbl (j + 1) i__law_standing [.ref p, t.pv, .int most] st = .ok w st' ∧ ∃ s : Stand, w = spv s ∧ GoodSt t s ∧ Step p st st' by
    obtain ⟨w, st', h1, bs, rfl, h2⟩ := key
    exact ⟨bs, st', h1, h2⟩
  refine fn_rets (n := j) (vs := [.ref p, t.pv, .int most]) (st := st) t__law_standing (fun w st' => ∃ s : Stand, w = spv s ∧ GoodSt t s ∧ Step p st st') rfl fun Q hQ => ?_
  have few := g.few
  have st2 := lc_step (own := [3]) (it := D.walk (D.call i__law_paths (D.cons (D.var 1) D.nil))) (tg := D.tn 3) (e := D.call i__law_beads (D.cons (D.var 0) (D.cons (D.call i__law_at (D.cons (D.var 1) (D.cons (D.var 3) D.nil))) (D.cons (D.var 2) D.nil)))) (c := callN tbl j) (σ := [some (.ref p), some t.pv, some (.int most), none]) (st := st) (st0 := st) (p := p) ppv bspv (fun q bs => ∃ l r sl h hs, t.sub q = some (.arm l r sl h hs) ∧ Ok 3 (.arm l r sl h hs) ∧ BeadsOk l r h bs) t.paths (walk_lst (by simp [x_law_paths j g (by omega)])) (Step.refl pen) (by omega) (by
    intro q hq st pen
    obtain ⟨l, r, sl, h, hs, s1, s2⟩ := sub_paths 3 t g.ok q hq
    obtain ⟨bs, st1, e1, b1, f1⟩ := x_law_beads j s2 hm (by omega) pen
    exact ⟨_, rfl, bs, st1, by simp [D.wipe, x_law_at j g q s1 (by omega), e1], ⟨l, r, sl, h, hs, s1, s2, b1⟩, f1⟩)
  obtain ⟨zs, st2, e2, len, hz, s2⟩ := st2
  simp [b__law_standing, start, e2, O.tuple]
  exact rets (hQ _ _ ⟨zs, rfl, ⟨len, hz⟩, s2⟩)

theorem x_law_lone (n) {p : Nat} {most held : Int} (hm : 1 ≤ most ∧ most ≤ 3) (hh : 1 ≤ held ∧ held ≤ 3) (hn : 2 ≤ n) {st : Store} (pen : Pen st p) : ∃ (l r sl h : Int) (st' : Store), callN tbl n i__law_lone [.ref p, .int most, .int held] st = .ok (Th.arm l r sl h []).pv st' ∧ Ok 1 (.arm l r sl h []) ∧ Step p st st' := by
  obtain ⟨j, rfl, hn⟩ := up hn
  suffices key : ∃ w st', callN tbl (j + 1) i__law_lone [.ref p, .int most, .int held] st = .ok w st' ∧ ∃ (l r sl h : Int), w = (Th.arm l r sl h []).pv ∧ Ok 1 (.arm l r sl h []) ∧ Step p st st' by
    obtain ⟨w, st', h1, l, r, sl, h, rfl, h2⟩ := key
    exact ⟨l, r, sl, h, st', h1, h2⟩
  refine fn_rets (n := j) (vs := [.ref p, .int most, .int held]) (st := st) t__law_lone (fun w st' => ∃ (l r sl h : Int), w = (Th.arm l r sl h []).pv ∧ Ok 1 (.arm l r sl h []) ∧ Step p st st') rfl fun Q hQ => ?_
  obtain ⟨k0, st0, e0, b0, s0⟩ := x_law_draw j (m := 6) (by omega) (by omega) (by omega) pen
  obtain ⟨k1, st1, e1, b1, s1⟩ := x_law_draw j (m := most) (by omega) (by omega) (by omega) s0.pen
  obtain ⟨k2, st2, e2, b2, s2⟩ := x_law_draw j (m := most) (by omega) (by omega) (by omega) s1.pen
  obtain ⟨k3, st3, e3, b3, s3⟩ := x_law_draw j (m := held) (by omega) (by omega) (by omega) s2.pen
  have it : ∃ sl : Int, (0 ≤ sl ∧ sl ≤ 9) ∧ O.item (.lst [.int 0, .int 0, .int 1, .int 2, .int 5, .int 9]) (.int k0) = some (.int sl) := by
    have : k0 = 0 ∨ k0 = 1 ∨ k0 = 2 ∨ k0 = 3 ∨ k0 = 4 ∨ k0 = 5 := by omega
    rcases this with rfl | rfl | rfl | rfl | rfl | rfl
    · exact ⟨0, by omega, rfl⟩
    · exact ⟨0, by omega, rfl⟩
    · exact ⟨1, by omega, rfl⟩
    · exact ⟨2, by omega, rfl⟩
    · exact ⟨5, by omega, rfl⟩
    · exact ⟨9, by omega, rfl⟩
  obtain ⟨sl, bs, it⟩ := it
  simp [b__law_lone, start, e0, it, e1, e2, e3, add_ii]
  exact rets (hQ _ _ ⟨1 + k1, 1 + k2, sl, 1 + k3, by rw [pv_arm]; rfl, ⟨by omega, by omega, bs, by omega, .nil, by simp⟩, ((s0.trans s1).trans s2).trans s3⟩)

end Dn

namespace Dn
open PySem
theorem erase_map {α β : Type} (f : α → β) : ∀ (l : List α) (i : Nat), (l.map f).eraseIdx i = (l.eraseIdx i).map f
  | [], _ => by simp
  | x :: l, 0 => by simp
  | x :: l, i + 1 => by simp [erase_map f l i]
theorem x_law_hung (n) {p d : Nat} {l r sl h : Int} (ok : Ok 1 (.arm l r sl h [])) (ts : List Th) (hts : ∀ t ∈ ts, Ok d t) (hlen : ts.length ≤ 1000) (hn : 2 ≤ n) {st : Store} (pen : Pen st p) : ∃ (hs : List (Int × Th)) (st' : Store), callN tbl n i__law_hung [.ref p, (Th.arm l r sl h []).pv, .lst (ts.map Th.pv)] st = .ok (Th.arm l r sl h hs).pv st' ∧ Ok (d + 1) (.arm l r sl h hs) ∧ cnt (.arm l r sl h hs) ≤ 1 + (ts.map cnt).sum ∧ Step p st st' := by
  obtain ⟨j, rfl, hn⟩ := up hn
  suffices key : ∃ w st', callN tbl (j + 1) i__law_hung [.ref p, (Th.arm l r sl h []).pv, .lst (ts.map Th.pv)] st = .ok w st' ∧ ∃ hs : List (Int × Th), w = (Th.arm l r sl h hs).pv ∧ Ok (d + 1) (.arm l r sl h hs) ∧ cnt (.arm l r sl h hs) ≤ 1 + (ts.map cnt).sum ∧ Step p st st' by
    obtain ⟨w, st', h1, hs, rfl, h2⟩ := key
    exact ⟨hs, st', h1, h2⟩
  refine fn_rets (n := j) (vs := [.ref p, (Th.arm l r sl h []).pv, .lst (ts.map Th.pv)]) (st := st) t__law_hung (fun w st' => ∃ hs : List (Int × Th), w = (Th.arm l r sl h hs).pv ∧ Ok (d + 1) (.arm l r sl h hs) ∧ cnt (.arm l r sl h hs) ≤ 1 + (ts.map cnt).sum ∧ Step p st st') rfl fun Q hQ => ?_
  have l3 := ok.1
  have r3 := ok.2.1
  have sl7 := spots_len l3 r3
  have nd0 := spots_nodup l3.1 r3.1
  have in0 := spots_in l3.1 r3.1
  have plt := pen.lt
  have armE : (Th.arm l r sl h []).pv = .tup [.int l, .int r, .int sl, .int h, .tup []] := by rw [pv_arm]; rfl
  have c2 : O.slice (.tup [.int l, .int r, .int sl, .int h, .tup []]) none (some 2) = some (.tup [.int l, .int r]) := rfl
  have c4 : O.slice (.tup [.int l, .int r, .int sl, .int h, .tup []]) none (some 4) = some (.tup [.int l, .int r, .int sl, .int h]) := rfl
  rw [armE]
  simp [b__law_hung, start, c2, sub_ii]
  rw [lc_all (fun i : Nat => PV.int (1 - l + i)) (fun i : Nat => PV.int (1 - l + i)) (List.range (r - (1 - l)).toNat) (src := none) (range2_ok (st' := st) (st2 := st) (by simp [sub_ii]) (by simp) (by omega) (by omega) (by omega) (by omega)) rfl (by simp; omega) (fun i _ => ⟨_, rfl, by simp [D.wipe]⟩)]
  have sp : ([PV.int (0 - l), PV.int r] ++ (List.range (r - (1 - l)).toNat).map fun i : Nat => PV.int (1 - l + i)) = (spots l r).map PV.int := by
    simp [spots, Function.comp_def]
  have adl : O.addL (.lst [PV.int (-l), PV.int r]) (.lst ((List.range (r - (1 - l)).toNat).map fun i : Nat => PV.int (1 - l + i))) = some (.lst ((spots l r).map PV.int)) := by
    rw [← sp]
    have : 2 + (r - (1 - l)).toNat ≤ 1000000 := by omega
    simp [O.addL]
    omega
  simp [adl]
  generalize e2 : st ++ [PO.lst ((spots l r).map PV.int), PO.dic false []] = st2
  have f1 : st2[st.length]? = some (.lst ((spots l r).map PV.int)) := by rw [← e2]; simp
  have f2 : st2[st.length + 1]? = some (.dic false []) := by rw [← e2]; simp
  have s2 : Step p st st2 := e2 ▸ Step.add pen _
  have dl := deref_at f1
  have len0 : O.len (.lst ((spots l r).map PV.int)) = some (.int ((spots l r).length : Nat)) := by simp [O.len]
  refine for_then (G := fun r => Rets (Res.bind r _) Q) Th.pv (ts.take (spots l r).length) none (st1 := st2) (fun M σ st' => ∃ (S : List Int) (R : List (Int × Th)) (x5 : Option PV), σ = [some (.ref p), some (.tup [.int l, .int r, .int sl, .int h, .tup []]), some (.lst (ts.map Th.pv)), some (.ref st.length), some (.ref (st.length + 1)), x5, some (.int l), some (.int r), none] ∧ st'[st.length]? = some (.lst (S.map .int)) ∧ st'[st.length + 1]? = some (.dic false (rowsOf R)) ∧ Step p st st' ∧ R.map (·.2) ++ M = ts.take (spots l r).length ∧ (S ++ R.map (·.1)).Perm (spots l r))
    (walk_lst (by simp [dl, len0, O.slice, cut_take, List.map_take])) (fun _ _ _ _ => rfl) ⟨spots l r, [], none, rfl, f1, f2, s2, rfl, by simp⟩ ?_ ?_
  · rintro t M σ st' ⟨S, R, x5, rfl, g1, g2, g3, g4, g5⟩
    have len := g5.length_eq
    have len2 := congrArg List.length g4
    simp only [List.length_append, List.length_map, List.length_cons, List.length_take] at len len2
    have dS := deref_at g1
    obtain ⟨k, st3, d1, b1, s3⟩ := x_law_draw j (m := if (S.length : Int) < 3 then (S.length : Int) else 3) (by split <;> omega) (by split <;> omega) (by omega) g3.pen
    have kS : k < S.length := by
      have := b1.2
      split at this <;> omega
    have kN : k.toNat < S.length := by omega
    have h1 : st3[st.length]? = some (.lst (S.map .int)) := by rw [s3.keep _ (List.getElem?_eq_some_iff.mp g1).1 (by omega)]; exact g1
    have h2 : st3[st.length + 1]? = some (.dic false (rowsOf R)) := by rw [s3.keep _ (List.getElem?_eq_some_iff.mp g2).1 (by omega)]; exact g2
    have pp := popAt_ok (o := D.var 3) (e := D.call i__law_draw (D.cons (D.var 0) (D.cons (D.op2 O.min2 (D.c (.int 3)) (D.op1 O.len (D.var 3))) D.nil))) (c := callN tbl j) (σ := [some (.ref p), some (.tup [.int l, .int r, .int sl, .int h, .tup []]), some (.lst (ts.map Th.pv)), some (.ref st.length), some (.ref (st.length + 1)), some t.pv, some (.int l), some (.int r), none]) (st := st') (st' := st3) (a := st.length) (i := k) (xs := S.map .int) (y := .int (S[k.toNat])) (by simp) ⟨_, g1⟩ (by simp [dS, O.len, O.min2, d1]) h1 b1.1 (by simpa using kS) (by simp; omega) (by simp [kN])
    generalize e4 : st3.set st.length (.lst ((S.map PV.int).eraseIdx k.toNat)) = st4 at pp
    have k2 : st4[st.length + 1]? = some (.dic false (rowsOf R)) := by rw [← e4, List.getElem?_set_ne (by omega)]; exact h2
    have k1 : st4[st.length]? = some (.lst ((S.eraseIdx k.toNat).map PV.int)) := by rw [← e4, get_set (List.getElem?_eq_some_iff.mp h1).1, erase_map]
    have s4 : Step p st st4 := e4 ▸ (g3.trans s3).set (Nat.le_refl _) plt
    have nd := g5.nodup_iff.mpr nd0
    have fresh : S[k.toNat] ∉ R.map (·.1) := fun z => by
      have := (List.nodup_append.mp nd).2.2 _ (List.getElem_mem kN) _ z
      exact this rfl
    have sd := store_dic (v := t.pv) k2 (k := S[k.toNat]) (by simp [rowsOf]; omega)
    rw [rows_put t fresh] at sd
    refine ⟨.nx, [some (.ref p), some (.tup [.int l, .int r, .int sl, .int h, .tup []]), some (.lst (ts.map Th.pv)), some (.ref st.length), some (.ref (st.length + 1)), some t.pv, some (.int l), some (.int r), none], st4.set (st.length + 1) (.dic false (rowsOf (R ++ [(S[k.toNat], t)]))), ?_, .inl rfl, S.eraseIdx k.toNat, R ++ [(S[k.toNat], t)], _, rfl, ?_, ?_, s4.set (by omega) plt, by simpa using g4, ?_⟩
    · simp [g_tsub, pp, sd]
    · rw [List.getElem?_set_ne (by omega)]
      exact k1
    · exact get_set (List.getElem?_eq_some_iff.mp k2).1
    · have pe := erase_perm kN
      refine List.Perm.trans ?_ g5
      rw [List.map_append]
      refine List.Perm.trans ?_ (pe.append_right (R.map (·.1)))
      rw [List.append_assoc]
      exact List.Perm.append_left _ List.perm_append_comm
  · rintro σ st' ⟨S, R, x5, rfl, g1, g2, g3, g4, g5⟩
    have len := g5.length_eq
    simp only [List.length_append, List.length_map] at len
    have nd := (List.nodup_append.mp (g5.nodup_iff.mpr nd0)).2.1
    have dd : deref st' (.ref (st.length + 1)) = .dic false (rowsOf R) := by simp [deref, g2]
    have sD := sortedD_rows (R := R) (by omega)
    rw [List.append_nil] at g4
    have up := rowsUp_perm nd
    have memR : ∀ x ∈ R, x.2 ∈ ts := fun x hx => by
      have : x.2 ∈ R.map (·.2) := List.mem_map.mpr ⟨x, hx, rfl⟩
      rw [g4] at this
      exact List.mem_of_mem_take this
    have lc := lc_all (own := [8]) (it := D.walk (D.op1 O.sortedD (D.var 4))) (tg := D.tn 8) (e := D.tup (D.cons (D.var 8) (D.cons (D.op2 O.item (D.var 4) (D.var 8)) D.nil))) (c := callN tbl j) (σ := [some (.ref p), some (.tup [.int l, .int r, .int sl, .int h, .tup []]), some (.lst (ts.map Th.pv)), some (.ref st.length), some (.ref (st.length + 1)), x5, some (.int l), some (.int r), none]) (st := st') PV.int (fun k => hpv (k, lookD k R)) (sortI (R.map (·.1))) (src := none) (walk_lst (by simp [dd, sD])) rfl (by rw [(sortI_perm _).length_eq]; simp; omega) (fun k hk => ⟨_, rfl, by
      have hk := (sortI_perm _).mem_iff.mp hk
      have hf := hung_find nd (look_ex nd hk).2
      simp [D.wipe, dd, O.item, keyT, rowsOf, hf, hpv]⟩)
    simp [lc, c4, O.tuple, O.add]
    refine rets (hQ _ _ ⟨rowsUp R, ?_, ⟨l3, r3, ok.2.2.1, ok.2.2.2.1, ?_, ?_⟩, ?_, g3⟩)
    · rw [pv_arm]
      simp [rowsUp]
    · rw [rowsUp_fst]
      exact sortI_rise nd
    · intro x hx
      have hx := up.mem_iff.mp hx
      exact ⟨in0 _ (g5.mem_iff.mp (List.mem_append_right _ (List.mem_map.mpr ⟨x, hx, rfl⟩))), hts _ (memR x hx)⟩
    · rw [cnt_arm, cnt_rows nd, g4]
      have := cnt_take ts (spots l r).length
      omega

end Dn

namespace Dn
open PySem
theorem x_law_arm (n) {p : Nat} {most held arms : Int} (hm : 1 ≤ most ∧ most ≤ 3) (hh : 1 ≤ held ∧ held ≤ 3) (ha : 1 ≤ arms ∧ arms ≤ 4) (hn : 3 ≤ n) {st : Store} (pen : Pen st p) : ∃ (t : Th) (st' : Store), callN tbl n i__law_arm [.ref p, .int most, .int held, .int arms] st = .ok t.pv st' ∧ GoodArm t ∧ Step p st st' := by
  obtain ⟨j, rfl, hn⟩ := up hn
  suffices key : ∃ w st', callN tbl (j + 1) i__law_arm [.ref p, .int most, .int held, .int arms] st = .ok w st' ∧ ∃ t : Th, w = t.pv ∧ GoodArm t ∧ Step p st st' by
    obtain ⟨w, st', h1, t, rfl, h2⟩ := key
    exact ⟨t, st', h1, h2⟩
  refine fn_rets (n := j) (vs := [.ref p, .int most, .int held, .int arms]) (st := st) t__law_arm (fun w st' => ∃ t : Th, w = t.pv ∧ GoodArm t ∧ Step p st st') rfl fun Q hQ => ?_
  obtain ⟨k0, st0, d0, b0, s0⟩ := x_law_draw j (m := arms) (by omega) (by omega) (by omega) pen
  have l1 := lc_step (own := [7]) (it := D.range1 (D.var 4)) (tg := D.tn 7) (e := D.call i__law_lone (D.cons (D.var 0) (D.cons (D.var 1) (D.cons (D.var 2) D.nil)))) (c := callN tbl j) (σ := [some (.ref p), some (.int most), some (.int held), some (.int arms), some (.int (1 + k0)), none, none, none]) (st := st0) (st0 := st0) (p := p) (fun i : Nat => PV.int i) Th.pv (fun _ t => Lone t) (List.range (1 + k0).toNat) (range1_ok (by simp) (by omega) (by omega)) (Step.refl s0.pen) (by simp; omega) (by
    intro i hi st pen
    obtain ⟨l, r, sl, h, st1, e1, o1, f1⟩ := x_law_lone j hm hh (by omega) pen
    exact ⟨_, rfl, _, st1, by simp [D.wipe, e1], ⟨l, r, sl, h, rfl, o1⟩, f1⟩)
  obtain ⟨zs, st1, e1, zl, zq, s1⟩ := l1
  have zq : ∀ z ∈ zs, Lone z := zip_all (Q := fun (_ : Nat) t => Lone t) (P := Lone) (fun _ _ h => h) zl zq
  rw [List.length_range] at zl
  obtain ⟨k1, st1', d1, b1, s1'⟩ := x_law_draw j (m := 3) (by omega) (by omega) (by omega) s1.pen
  have l2 := lc_step (own := [7]) (it := D.range1 (D.call i__law_draw (D.cons (D.var 0) (D.cons (D.c (.int 3)) D.nil)))) (tg := D.tn 7) (e := D.op2 O.add (D.c (.int 1)) (D.call i__law_draw (D.cons (D.var 0) (D.cons (D.c (.int 9)) D.nil)))) (c := callN tbl j) (σ := [some (.ref p), some (.int most), some (.int held), some (.int arms), some (.int (1 + k0)), some (.lst (zs.map Th.pv)), none, none]) (st := st1) (st0 := st1') (p := p) (fun i : Nat => PV.int i) Th.pv (fun _ t => ∃ k, t = .w k ∧ 1 ≤ k ∧ k ≤ 9) (List.range k1.toNat) (range1_ok (by simp [d1]) (by omega) (by omega)) s1' (by simp; omega) (by
    intro i hi st pen
    obtain ⟨k, st1, e1, o1, f1⟩ := x_law_draw j (m := 9) (by omega) (by omega) (by omega) pen
    exact ⟨_, rfl, .w (1 + k), st1, by simp [D.wipe, e1, add_ii, pv_w], ⟨_, rfl, by omega⟩, f1⟩)
  obtain ⟨ws, st2, e2, wl, wq, s2⟩ := l2
  have wq : ∀ z ∈ ws, ∃ k, z = .w k ∧ 1 ≤ k ∧ k ≤ 9 := zip_all (Q := fun (_ : Nat) t => ∃ k, t = Th.w k ∧ 1 ≤ k ∧ k ≤ 9) (P := fun t => ∃ k, t = Th.w k ∧ 1 ≤ k ∧ k ≤ 9) (fun _ _ h => h) wl wq
  rw [List.length_range] at wl
  have wok : ∀ z ∈ ws, Ok 1 z ∧ cnt z = 0 := fun z hz => by
    obtain ⟨k, rfl, h⟩ := wq z hz
    exact ⟨Ok_w.mpr h, cnt_w k⟩
  have zok : ∀ z ∈ zs, Ok 1 z ∧ cnt z = 1 := fun z hz => by
    have h := zq z hz
    refine ⟨?_, h.cnt⟩
    obtain ⟨l, r, s, h, rfl, o⟩ := h
    exact o
  have sall := (s0.trans s1).trans s2
  obtain ⟨z0, zr, rfl⟩ : ∃ z0 zr, zs = z0 :: zr := by
    cases zs with
    | nil => simp at zl; omega
    | cons a b => exact ⟨a, b, rfl⟩
  simp only [List.length_cons] at zl
  obtain ⟨l, r, sl, h, rfl, ok0⟩ := zq z0 List.mem_cons_self
  have ad : ∀ a : List PV, a.length ≤ 1000 → O.add (.lst a) (.lst (ws.map Th.pv)) = some (.lst (a ++ ws.map Th.pv)) := fun a h => by
    have : a.length + ws.length ≤ 1000000 := by omega
    simp [O.add, this]
  have c1 : O.slice (.lst ((Th.arm l r sl h []).pv :: zr.map Th.pv)) (some 1) none = some (.lst (zr.map Th.pv)) := by simp only [O.slice, cut_1]
  have plain1 : ∀ st3, Step p st st3 → ∃ (t : Th) (st' : Store), callN tbl j i__law_hung [.ref p, (Th.arm l r sl h []).pv, .lst (zr.map Th.pv ++ ws.map Th.pv)] st3 = .ok t.pv st' ∧ GoodArm t ∧ Step p st st' := fun st3 s3 => by
    have hu := x_law_hung j ok0 (d := 1) (zr ++ ws) (fun t ht => by
      rcases List.mem_append.mp ht with e | e
      · exact (zok t (List.mem_cons_of_mem _ e)).1
      · exact (wok t e).1) (by rw [List.length_append]; omega) (by omega) s3.pen
    obtain ⟨hs, st', h1, h2, h3, h4⟩ := hu
    rw [List.map_append] at h1
    refine ⟨_, st', h1, ⟨rfl, h2.up, ?_⟩, s3.trans h4⟩
    rw [List.map_append, List.sum_append, sum_same zr fun x hx => (zok x (List.mem_cons_of_mem _ hx)).2, sum_same ws fun x hx => (wok x hx).2] at h3
    unfold cnt at h3
    omega
  simp [b__law_arm, start, d0, add_ii]
  simp only [e1, Res.bind_ok, List.set_cons_succ, List.set_cons_zero, e2]
  simp only [List.map_cons]
  by_cases m3 : 1 + k0 < 3
  · obtain ⟨t, st', h1, h2, h3⟩ := plain1 st2 sall
    simp [O.lt, m3, item_lst0, c1, ad (zr.map Th.pv) (by simp; omega), h1]
    exact rets (hQ _ _ ⟨t, rfl, h2, h3⟩)
  · obtain ⟨k2, st3, d2, b2, s3⟩ := x_law_draw j (m := 2) (by omega) (by omega) (by omega) s2.pen
    by_cases k20 : k2 = 0
    · obtain ⟨t, st', h1, h2, h3⟩ := plain1 st3 (sall.trans s3)
      simp [O.lt, m3, d2, k20, O.eq, eqP, item_lst0, c1, ad (zr.map Th.pv) (by simp; omega), h1]
      exact rets (hQ _ _ ⟨t, rfl, h2, h3⟩)
    · obtain ⟨z1, z2, zr', rfl⟩ : ∃ z1 z2 zr', zr = z1 :: z2 :: zr' := by
        match zr, zl with
        | [], zl => simp at zl; omega
        | [a], zl => simp at zl; omega
        | a :: b :: c, _ => exact ⟨a, b, c, rfl⟩
      simp only [List.length_cons] at zl
      obtain ⟨l1, r1, sl1, h1, rfl, ok1⟩ := zq z1 (by simp)
      obtain ⟨hs1, st4, g1, g2, g3, g4⟩ := x_law_hung j ok1 (d := 1) (z2 :: ws) (fun t ht => by
        rcases List.mem_cons.mp ht with e | e
        · subst e; exact (zok t (by simp)).1
        · exact (wok t e).1) (by rw [List.length_cons]; omega) (by omega) s3.pen
      obtain ⟨hs, st5, f1, f2, f3, f4⟩ := x_law_hung j ok0 (d := 2) (.arm l1 r1 sl1 h1 hs1 :: zr') (fun t ht => by
        rcases List.mem_cons.mp ht with e | e
        · subst e; exact g2
        · exact (zok t (by simp [e])).1.up) (by rw [List.length_cons]; omega) (by omega) g4.pen
      have c23 : O.slice (.lst ((Th.arm l r sl h []).pv :: (Th.arm l1 r1 sl1 h1 []).pv :: z2.pv :: zr'.map Th.pv)) (some 2) (some 3) = some (.lst [z2.pv]) := by simp only [O.slice, cut_23]
      have c3 : O.slice (.lst ((Th.arm l r sl h []).pv :: (Th.arm l1 r1 sl1 h1 []).pv :: z2.pv :: zr'.map Th.pv)) (some 3) none = some (.lst (zr'.map Th.pv)) := by simp only [O.slice, cut_3]
      have ad2 : O.add (.lst [(Th.arm l1 r1 sl1 h1 hs1).pv]) (.lst (zr'.map Th.pv)) = some (.lst ((Th.arm l1 r1 sl1 h1 hs1).pv :: zr'.map Th.pv)) := by
        have : 1 + zr'.length ≤ 1000000 := by omega
        simp [O.add, this]
      simp only [List.map_cons] at g1 f1
      simp [O.lt, m3, d2, k20, O.eq, eqP, item_lst0, item_lst1, c23, c3, ad [z2.pv] (by simp), g1, ad2, f1]
      refine rets (hQ _ _ ⟨_, rfl, ⟨rfl, f2, ?_⟩, ((sall.trans s3).trans g4).trans f4⟩)
      have z2c := (zok z2 (by simp)).2
      rw [List.map_cons, List.sum_cons, sum_same ws fun x hx => (wok x hx).2] at g3
      rw [List.map_cons, List.sum_cons, sum_same zr' fun x hx => (zok x (by simp [hx])).2] at f3
      show cnt _ ≤ 4
      omega

end Dn

namespace Dn
open PySem
theorem x_law_right (n) {t : Th} {s : Stand} (g : GoodArm t) (gs : GoodSt t s) (hn : 20 ≤ n) (st) : callN tbl n i__law_right [t.pv, spv s] st = .ok (.bl true) st := by
  obtain ⟨m, rfl, hm⟩ := up hn
  refine fn_ret t__law_right rfl (by simp) ?_ (by simp)
  have sh := shown_both g gs
  have r1 := sh.repr
  have r2 := sh.eq
  simp [b__law_right, start, r1]
  refine for_then (G := fun r => fin (Res.bind r _) = _) ppv t.paths none (st1 := []) (fun M σ st => ∃ a b c : Option PV, (∀ x ∈ M, x ∈ t.paths) ∧ σ = [some t.pv, some (spv s), some (.str (O.rep (.lst [t.pv, spv s]))), a, b, c])
    (walk_lst (by simp [x_law_paths m g (by omega)])) (fun _ _ _ _ => rfl) ⟨none, none, none, fun _ z => z, rfl⟩ ?_ ?_
  · rintro q M σ st ⟨a, b, c, hM, rfl⟩
    have hq := hM q List.mem_cons_self
    obtain ⟨l, r, sl, h, hs, s1, s2⟩ := sub_paths 3 t g.ok q hq
    have ld : LD (bdOf t s) t q = loadT (bdOf t s) q (.arm l r sl h hs) := by simp only [LD, s1]
    have l1 := x_law_load m g gs s1 rfl (by omega)
    rw [← ld] at l1
    have bnd := tilt_bound g gs hq
    have wd : WD (bdOf t s) t q = wordS sl (TL (bdOf t s) t q) := by simp only [WD, s1]
    have so : Shown 60 10000000 (.lst [.int (LD (bdOf t s) t q), .int (TL (bdOf t s) t q), .str (WD (bdOf t s) t q)]) := by
      rw [wd]
      exact ((Shown.int bnd.2).cons ((Shown.int bnd.1).cons ((shown_word _ _).cons Shown.nil))).lst.mono (by omega) (by omega)
    have sm := x_law_same m so (by simp) (by omega)
    show Runs _ _
    simp [l1, x_law_tilt m g gs hq (by omega), x_law_word m g gs hq (by omega)]
    refine for_then (G := fun r => Runs r _) (fun i : Nat => PV.int i) (List.range (2 : Int).toNat) none (st1 := st) (fun _ σ _ => ∃ c', σ = [some t.pv, some (spv s), some (.str (O.rep (.lst [t.pv, spv s]))), some (ppv q), some (.lst [.int (LD (bdOf t s) t q), .int (TL (bdOf t s) t q), .str (WD (bdOf t s) t q)]), c']) (range1_ok (by simp) (by decide) (by decide)) (fun _ _ _ _ => rfl) ⟨_, rfl⟩ ?_ ?_
    · rintro i M' σ st ⟨c', rfl⟩
      show Runs _ _
      simp [x_load m g gs hq (by omega), x_tilt m g gs hq (by omega), x_word m g gs hq (by omega), sm]
      exact runs_nx ⟨_, rfl⟩
    · rintro σ' st' ⟨c', rfl⟩
      exact runs_nx ⟨fun y hy => hM y (List.mem_cons_of_mem _ hy), _, _, _, rfl⟩
  · rintro σ st ⟨a, b, c, _, rfl⟩
    simp [r1, r2]

end Dn

namespace Dn
open PySem
def EndsOf (M : List (Int × Str)) : Prop := ∀ x ∈ M, x = (-1, sLeft) ∨ x = (1, sRight)
theorem x_law_slacks (n) (hn : 20 ≤ n) (st) : callN tbl n i__law_slacks_right [] st = .ok (.bl true) st := by
  obtain ⟨m, rfl, hm⟩ := up hn
  refine fn_ret t__law_slacks_right rfl (by simp) ?_ (by simp)
  simp [b__law_slacks_right, start]
  refine for_then (G := fun r => fin (Res.bind r _) = _) (fun i : Nat => PV.int i) (List.range (10 : Int).toNat) none (st1 := []) (fun M σ _ => ∃ a b c d e : Option PV, (∀ x ∈ M, x < 10) ∧ σ = [a, b, c, d, e]) (range1_ok (by simp) (by decide) (by decide)) (fun _ _ _ _ => rfl) ⟨none, none, none, none, none, by simp, rfl⟩ ?_ ?_
  · rintro sl M σ st ⟨a, b, c, d, e, hM, rfl⟩
    have hsl := hM sl List.mem_cons_self
    show Runs _ _
    simp
    refine for_then (G := fun r => Runs r _) (fun i : Nat => PV.int (1 + (i : Int))) (List.range ((10 : Int) - 1).toNat) none (st1 := st) (fun M' σ _ => ∃ b c d e : Option PV, (∀ x ∈ M', x < 9) ∧ σ = [some (.int sl), b, c, d, e]) (range2_ok (st' := st) (st2 := st) (by simp) (by simp) (by decide) (by decide) (by decide) (by decide)) (fun _ _ _ _ => rfl) ⟨b, c, d, e, by simp, rfl⟩ ?_ ?_
    · rintro w' M' σ st ⟨b, c, d, e, hM', rfl⟩
      have hw := hM' w' List.mem_cons_self
      generalize hw' : (1 + (w' : Int)) = w
      have hw1 : 1 ≤ w ∧ w ≤ 9 := by omega
      show Runs _ _
      simp
      refine for_then (G := fun r => Runs r _) (fun x : Int × Str => .tup [.int x.1, .str x.2]) [(-1, sLeft), (1, sRight)] none (st1 := st) (fun M'' σ _ => ∃ c d e : Option PV, EndsOf M'' ∧ σ = [some (.int sl), some (.int w), c, d, e]) (walk_lst (by simp [O.neg]; exact ⟨rfl, rfl⟩)) (fun _ _ _ _ => rfl) ⟨c, d, e, by simp [EndsOf], rfl⟩ ?_ ?_
      · rintro ⟨en, low⟩ M'' σ st ⟨c, d, e, hM'', rfl⟩
        have hx := hM'' _ List.mem_cons_self
        have hT : EndsOf M'' := fun y hy => hM'' y (List.mem_cons_of_mem _ hy)
        have he : -1 ≤ en ∧ en ≤ 1 := by rcases hx with h | h <;> (cases h; omega)
        have g : GoodArm (.arm 1 1 sl 1 [(en, .w w)]) := by
          refine ⟨rfl, ⟨by omega, by omega, by omega, by omega, List.pairwise_singleton _ _, ?_⟩, by rw [paths_arm]; simp [paths_w]⟩
          intro x hx
          simp at hx
          subst hx
          exact ⟨by simp only; omega, Ok_w.mpr hw1⟩
        have pz : (Th.arm 1 1 sl 1 [(en, .w w)]).paths = [[]] := by rw [paths_arm]; simp [paths_w]
        have gs : GoodSt (.arm 1 1 sl 1 [(en, .w w)]) [[]] := by
          have := bare_ok g
          rw [pz] at this
          exact this
        have hq : [] ∈ (Th.arm 1 1 sl 1 [(en, .w w)]).paths := by rw [pz]; simp
        have bd0 : bdOf (.arm 1 1 sl 1 [(en, .w w)]) [[]] [] = [] := by simp [bdOf, pz, lk]
        have tl : TL (bdOf (.arm 1 1 sl 1 [(en, .w w)]) [[]]) (.arm 1 1 sl 1 [(en, .w w)]) [] = en * w := by simp [TL, Th.sub, tiltT, bd0, load_w]
        have ld : LD (bdOf (.arm 1 1 sl 1 [(en, .w w)]) [[]]) (.arm 1 1 sl 1 [(en, .w w)]) [] = w := by simp [LD, Th.sub, load_arm, bd0, load_w]
        have wd : WD (bdOf (.arm 1 1 sl 1 [(en, .w w)]) [[]]) (.arm 1 1 sl 1 [(en, .w w)]) [] = if w ≤ sl then sLevel else low := by
          have : WD (bdOf (.arm 1 1 sl 1 [(en, .w w)]) [[]]) (.arm 1 1 sl 1 [(en, .w w)]) [] = wordS sl (en * w) := by simp only [WD, Th.sub, tl]
          rw [this]
          unfold wordS
          rcases hx with h | h
          · cases h
            by_cases z : w ≤ sl
            · rw [if_neg (by omega), if_neg (by omega), if_pos z]
            · rw [if_pos (by omega), if_neg z]
          · cases h
            by_cases z : w ≤ sl
            · rw [if_neg (by omega), if_neg (by omega), if_pos z]
            · rw [if_neg (by omega), if_pos (by omega), if_neg z]
        have t1 := x_tilt m g gs hq (by omega)
        have t2 := x_load m g gs hq (by omega)
        have t3 := x_word m g gs hq (by omega)
        rw [tl] at t1
        rw [ld] at t2
        rw [wd] at t3
        have pvE : (Th.arm 1 1 sl 1 [(en, .w w)]).pv = .tup [.int 1, .int 1, .int sl, .int 1, .tup [.tup [.int en, .int w]]] := by rw [pv_arm]; simp [hpv, pv_w]
        have sE : spv [[]] = .tup [.tup []] := rfl
        have qE : ppv [] = .tup [] := rfl
        rw [pvE, sE, qE] at t1 t2 t3
        have so : Shown 60 10000000 (.lst [.int (en * w), .int w]) := ((Shown.int (i := en * w) (by
          have := mul3 (p := en) (b := w) (B := 9) (by omega) (by omega) (by omega) (by omega)
          omega)).cons ((Shown.int (by omega)).cons Shown.nil)).lst.mono (by omega) (by omega)
        have sm := x_law_same m so (by simp) (by omega)
        have sen : O.small en = true := by
          simp only [O.small, Bool.and_eq_true, decide_eq_true_eq]
          omega
        have lv : sg (if w ≤ sl then sLevel else low) = true := by
          rcases hx with h | h <;> (cases h; split <;> decide +kernel)
        show Runs _ _
        by_cases z : w ≤ sl
        · rw [if_pos z] at t3 lv
          have nl : O.ne (.str sLevel) (.str ⟨#[108, 101, 118, 101, 108]⟩) = some (.bl false) := ne_str lv
          simp [t1, t2, mulx_ii sen, sm, t3, O.le, z, nl]
          exact runs_nx ⟨hT, _, _, _, rfl⟩
        · rw [if_neg z] at t3 lv
          have nl := ne_str lv
          simp [t1, t2, mulx_ii sen, sm, t3, O.le, z, nl]
          exact runs_nx ⟨hT, _, _, _, rfl⟩
      · rintro σ st ⟨c, d, e, _, rfl⟩
        exact runs_nx ⟨fun y hy => hM' y (List.mem_cons_of_mem _ hy), _, _, _, _, rfl⟩
    · rintro σ st ⟨b, c, d, e, _, rfl⟩
      exact runs_nx ⟨fun y hy => hM y (List.mem_cons_of_mem _ hy), _, _, _, _, _, rfl⟩
  · rintro σ st ⟨a, b, c, d, e, _, rfl⟩
    simp

end Dn

namespace Dn
open PySem
theorem x_law (n) (xs : List Int) (hx : xs.length ≤ 63) (hn : 25 ≤ n) (st) : callN tbl n i_law [.scr xs] st = .ok (.bl true) st := by
  obtain ⟨m, rfl, hm⟩ := up hn
  refine fn_ret t_law rfl (by simp) ?_ (by simp)
  simp [b_law, start, x_law_slacks m (by omega)]
  generalize hK : (if (if (4 : Int) < (xs.length : Int) then (4 : Int) else (xs.length : Int)) > 1 then (if (4 : Int) < (xs.length : Int) then (4 : Int) else (xs.length : Int)) else 1) = K
  have kb : 1 ≤ K ∧ K ≤ 4 := by
    rw [← hK]
    split <;> split at * <;> omega
  refine for_then (G := fun r => fin (Res.bind r _) = _) (fun i : Nat => PV.int i) (List.range K.toNat) none (st1 := []) (fun M σ _ => ∃ a b c d e : Option PV, σ = [some (.scr xs), a, b, c, d, e]) (range1_ok (by simp [O.len, O.min2, O.max2]; exact hK) (by omega) (by omega)) (fun _ _ _ _ => rfl) ⟨none, none, none, none, none, rfl⟩ ?_ ?_
  · rintro i M σ st ⟨a, b, c, d, e, rfl⟩
    obtain ⟨v, ce⟩ := x_law_cell_at m xs i (by omega) st
    obtain ⟨pa, pb, pe⟩ := x_law_pen m v (by omega) st
    have pen0 : Pen (st ++ [.lst [.int pa, .int pb, .int 0]]) st.length := ⟨pa, pb, 0, by simp⟩
    show Runs _ _
    simp [ce, pe]
    refine for_then (G := fun r => Runs r _) (fun i : Nat => PV.int i) (List.range (4 : Int).toNat) none (st1 := _) (fun M' σ st' => Pen st' st.length ∧ ∃ c d e : Option PV, σ = [some (.scr xs), some (.int i), some (.ref st.length), c, d, e]) (range1_ok (by simp) (by decide) (by decide)) (fun _ _ _ _ => rfl) ⟨pen0, c, d, e, rfl⟩ ?_ ?_
    · rintro lap M' σ st2 ⟨pen, c, d, e, rfl⟩
      obtain ⟨t, st3, e1, g, s1⟩ := x_law_arm m (most := 3) (held := 3) (arms := 4) (by omega) (by omega) (by omega) (by omega) pen
      obtain ⟨s, st4, e2, g2, s2⟩ := x_law_standing m (most := 3) g (by omega) (by omega) s1.pen
      obtain ⟨s', st5, e3, g3, s3⟩ := x_law_standing m (most := 1) g (by omega) (by omega) s2.pen
      have bp := bare_pv g
      have lenE : O.len (.lst (t.paths.map ppv)) = some (.int t.paths.length) := by simp [O.len]
      show Runs _ _
      simp [e1]
      refine for_then (G := fun r => Runs r _) spv [s, s', List.replicate t.paths.length []] none (st1 := st5) (fun M'' σ st' => Pen st' st.length ∧ (∀ s ∈ M'', GoodSt t s) ∧ ∃ e : Option PV, σ = [some (.scr xs), some (.int i), some (.ref st.length), some (.int lap), some t.pv, e]) (walk_lst' (by simp [e2, e3, x_law_paths m g (by omega), lenE, bp])) (fun _ _ _ _ => rfl) ⟨s3.pen, by simpa using ⟨g2, g3, bare_ok g⟩, e, rfl⟩ ?_ ?_
      · rintro s M'' σ st6 ⟨pen6, hM, e, rfl⟩
        have gs := hM s List.mem_cons_self
        show Runs _ _
        simp [x_law_right m g gs (by omega)]
        exact runs_nx ⟨pen6, fun y hy => hM y (List.mem_cons_of_mem _ hy), _, rfl⟩
      · rintro σ st6 ⟨pen6, hM, e, rfl⟩
        exact runs_nx ⟨pen6, _, _, _, rfl⟩
    · rintro σ st6 ⟨pen6, c, d, e, rfl⟩
      exact runs_nx ⟨_, _, _, _, _, rfl⟩
  · rintro σ st6 ⟨a, b, c, d, e, rfl⟩
    simp

end Dn

namespace Dn
open PySem
theorem plain_law (xs : List Int) (h : xs.length ≤ 63) : ∃ st, callN tbl 30 i_law [.scr xs] [] = .ok (.bl true) st := ⟨_, x_law 30 xs h (by omega) []⟩

end Dn

namespace Dn
open L2
def top (i : Nat) : PySem.Stmt := PySem.Challenge.pw_tiltbeads_k04_loads_tilts_words.main.body.getD i (.Pass ⟨0, 0, 0, 0⟩)
def mem (i j : Nat) : PySem.Stmt := match top i with
  | .ClassDef _ _ _ b _ _ _ _ _ _ _ => b.getD j (.Pass ⟨0, 0, 0, 0⟩)
  | x => x
def gn : Nat → Option PySem.Str
  | 0 => some ("is_whole" : PySem.Str)
  | 1 => some ("is_within" : PySem.Str)
  | 2 => some ("is_long" : PySem.Str)
  | 3 => some ("rises" : PySem.Str)
  | 4 => some ("falls_not" : PySem.Str)
  | 5 => some ("is_arm_by" : PySem.Str)
  | 6 => some ("is_weight" : PySem.Str)
  | 7 => some ("arms_in" : PySem.Str)
  | 8 => some ("is_arm" : PySem.Str)
  | 9 => some ("need_arm" : PySem.Str)
  | 10 => some ("paths_by" : PySem.Str)
  | 11 => some ("is_path" : PySem.Str)
  | 12 => some ("need_path" : PySem.Str)
  | 13 => some ("arm_by" : PySem.Str)
  | 14 => some ("is_bead" : PySem.Str)
  | 15 => some ("are_beads" : PySem.Str)
  | 16 => some ("is_standing_by" : PySem.Str)
  | 17 => some ("need_standing" : PySem.Str)
  | 20 => some ("word_by" : PySem.Str)
  | 21 => some ("words_by" : PySem.Str)
  | 22 => some ("need_place_of" : PySem.Str)
  | 23 => some ("load" : PySem.Str)
  | 24 => some ("tilt" : PySem.Str)
  | 25 => some ("word" : PySem.Str)
  | 26 => some ("_law_cell_at" : PySem.Str)
  | 27 => some ("_law_pen" : PySem.Str)
  | 28 => some ("_law_draw" : PySem.Str)
  | 29 => some ("_law_same" : PySem.Str)
  | 30 => some ("_law_lone" : PySem.Str)
  | 31 => some ("_law_hung" : PySem.Str)
  | 32 => some ("_law_arm" : PySem.Str)
  | 33 => some ("_law_paths" : PySem.Str)
  | 34 => some ("_law_at" : PySem.Str)
  | 35 => some ("_law_beads" : PySem.Str)
  | 36 => some ("_law_standing" : PySem.Str)
  | 37 => some ("_law_load" : PySem.Str)
  | 38 => some ("_law_tilt" : PySem.Str)
  | 39 => some ("_law_word" : PySem.Str)
  | 40 => some ("_law_right" : PySem.Str)
  | 41 => some ("_law_slacks_right" : PySem.Str)
  | 42 => some ("law" : PySem.Str)
  | _ => none
def df : Nat → List PV

  | _ => []
def cnm : Nat → Option PySem.Str
  | 4 => some ("Seen" : PySem.Str)
  | _ => none
def cin : Nat → Nat
  | 4 => 18
  | _ => 0
def flds : Nat → List PySem.Str
  | 4 => [("beads" : PySem.Str), ("loads" : PySem.Str), ("tilts" : PySem.Str)]
  | _ => []
def mths : Nat → List (PySem.Str × Nat)
  | 4 => [(("look" : PySem.Str), 19)]
  | _ => []
def csts (x : PySem.Str) : Option PV := if sEq x ("MOST_SIDE" : PySem.Str) then some (.int 3) else if sEq x ("MOST_SLACK" : PySem.Str) then some (.int 9) else if sEq x ("MOST_HOLDS" : PySem.Str) then some (.int 3) else if sEq x ("MOST_WEIGHT" : PySem.Str) then some (.int 9) else if sEq x ("MOST_ARMS" : PySem.Str) then some (.int 4) else if sEq x ("MOST_DEEP" : PySem.Str) then some (.int 3) else if sEq x ("LONG_ARM" : PySem.Str) then some (.int 5) else if sEq x ("MOST_BEAD" : PySem.Str) then some (.int 3) else if sEq x ("LEVEL" : PySem.Str) then some (.str (⟨#[108, 101, 118, 101, 108]⟩ : PySem.Str)) else if sEq x ("LEFT" : PySem.Str) then some (.str (⟨#[108, 101, 102, 116]⟩ : PySem.Str)) else if sEq x ("RIGHT" : PySem.Str) then some (.str (⟨#[114, 105, 103, 104, 116]⟩ : PySem.Str)) else none
def fre : List PySem.Str := [("abs" : PySem.Str), ("all" : PySem.Str), ("bool" : PySem.Str), ("dict" : PySem.Str), ("int" : PySem.Str), ("isinstance" : PySem.Str), ("len" : PySem.Str), ("list" : PySem.Str), ("max" : PySem.Str), ("min" : PySem.Str), ("range" : PySem.Str), ("repr" : PySem.Str), ("sorted" : PySem.Str), ("sum" : PySem.Str), ("tuple" : PySem.Str), ("zip" : PySem.Str)]
def Γ : Pg := ⟨tbl, gn, df, cnm, cin, flds, mths, csts, fre⟩
abbrev n_is_whole : List PySem.Str := [("thing" : PySem.Str)]
theorem s_is_whole : SSs Γ n_is_whole (L2.defScope (top 13)) (L2.defBody (top 13)) b_is_whole :=
  (SSs.one (SS.ret (SE.and (o_isInt (by decide +kernel) (by decide +kernel) (SE.var (by decide +kernel))) (SE.and1 (SE.not (o_isBool (by decide +kernel) (by decide +kernel) (SE.var (by decide +kernel))))))))
abbrev n_is_within : List PySem.Str := [("thing" : PySem.Str), ("least" : PySem.Str), ("most" : PySem.Str)]
theorem s_is_within : SSs Γ n_is_within (L2.defScope (top 14)) (L2.defBody (top 14)) b_is_within :=
  (SSs.one (SS.ret (SE.and (SE.call (j := 0) (by decide +kernel) (by decide +kernel) rfl (SA.cons (SE.var (by decide +kernel)) SA.nil)) (SE.and1 (SE.chain o_le o_le (SE.var (by decide +kernel)) (SE.var (by decide +kernel)) (SE.var (by decide +kernel)) rfl)))))
abbrev n_is_long : List PySem.Str := [("thing" : PySem.Str), ("least" : PySem.Str), ("most" : PySem.Str)]
theorem s_is_long : SSs Γ n_is_long (L2.defScope (top 15)) (L2.defBody (top 15)) b_is_long :=
  (SSs.one (SS.ret (SE.and (o_isTup (by decide +kernel) (by decide +kernel) (SE.var (by decide +kernel))) (SE.and1 (SE.chain o_le o_le (SE.var (by decide +kernel)) (o_len (by decide +kernel) (SE.var (by decide +kernel))) (SE.var (by decide +kernel)) rfl)))))
abbrev n_rises : List PySem.Str := [("row" : PySem.Str), ("one" : PySem.Str), ("later" : PySem.Str)]
theorem s_rises : SSs Γ n_rises (L2.defScope (top 16)) (L2.defBody (top 16)) b_rises :=
  (SSs.one (SS.ret (o_all (by decide +kernel) (SEF.val (SEF.lc (own := [(("one" : PySem.Str), 1), (("later" : PySem.Str), 2)]) (by decide +kernel) rfl (SI.zip (by decide +kernel) (SE.var (by decide +kernel)) (SE.slice (SE.var (by decide +kernel)) SE.int trivial)) (Keeps.tt (Keep2.cons (Keeps.tn (by decide +kernel) (by decide)) (Keep2.cons (Keeps.tn (by decide +kernel) (by decide)) Keep2.nil)) rfl) STs.nil (SE.cmp o_lt (SE.var (by decide +kernel)) (SE.var (by decide +kernel)) rfl)) lo_lc))))
abbrev n_falls_not : List PySem.Str := [("row" : PySem.Str), ("one" : PySem.Str), ("later" : PySem.Str)]
theorem s_falls_not : SSs Γ n_falls_not (L2.defScope (top 17)) (L2.defBody (top 17)) b_falls_not :=
  (SSs.one (SS.ret (o_all (by decide +kernel) (SEF.val (SEF.lc (own := [(("one" : PySem.Str), 1), (("later" : PySem.Str), 2)]) (by decide +kernel) rfl (SI.zip (by decide +kernel) (SE.var (by decide +kernel)) (SE.slice (SE.var (by decide +kernel)) SE.int trivial)) (Keeps.tt (Keep2.cons (Keeps.tn (by decide +kernel) (by decide)) (Keep2.cons (Keeps.tn (by decide +kernel) (by decide)) Keep2.nil)) rfl) STs.nil (SE.cmp o_le (SE.var (by decide +kernel)) (SE.var (by decide +kernel)) rfl)) lo_lc))))
abbrev n_is_arm_by : List PySem.Str := [("thing" : PySem.Str), ("deep" : PySem.Str), ("left" : PySem.Str), ("right" : PySem.Str), ("slack" : PySem.Str), ("holds" : PySem.Str), ("hung" : PySem.Str), ("one" : PySem.Str), ("place" : PySem.Str), ("what" : PySem.Str)]
theorem s_is_arm_by : SSs Γ n_is_arm_by (L2.defScope (top 18)) (L2.defBody (top 18)) b_is_arm_by :=
  (SSs.cons (SS.if (SW.st (SW.or (ST.cmp o_eq (SE.var (by decide +kernel)) SE.int rfl) (SW.or1 (ST.not (ST.val (SE.call (j := 0) (by decide +kernel) (by decide +kernel) rfl (SA.cons (SE.var (by decide +kernel)) (SA.cons (SE.glob (by decide +kernel) rfl) (SA.cons (SE.glob (by decide +kernel) rfl) SA.nil))))))))) (SSs.one (SS.ret SE.bl)) SSs.nil)
  (SSs.cons (SS.asg (SE.var (by decide +kernel)) (SG.tt (SGs.cons (SG.tn (by decide +kernel)) (SGs.cons (SG.tn (by decide +kernel)) (SGs.cons (SG.tn (by decide +kernel)) (SGs.cons (SG.tn (by decide +kernel)) (SGs.cons (SG.tn (by decide +kernel)) SGs.nil))))) rfl))
  (SSs.cons (SS.if (SW.st (SW.or (ST.not (ST.val (SE.call (j := 0) (by decide +kernel) (by decide +kernel) rfl (SA.cons (SE.var (by decide +kernel)) (SA.cons SE.int (SA.cons (SE.glob (by decide +kernel) rfl) SA.nil)))))) (SW.or1 (ST.not (ST.val (SE.call (j := 0) (by decide +kernel) (by decide +kernel) rfl (SA.cons (SE.var (by decide +kernel)) (SA.cons SE.int (SA.cons (SE.glob (by decide +kernel) rfl) SA.nil))))))))) (SSs.one (SS.ret SE.bl)) SSs.nil)
  (SSs.cons (SS.if (SW.st (SW.or (ST.not (ST.val (SE.call (j := 0) (by decide +kernel) (by decide +kernel) rfl (SA.cons (SE.var (by decide +kernel)) (SA.cons SE.int (SA.cons (SE.glob (by decide +kernel) rfl) SA.nil)))))) (SW.or (ST.not (ST.val (SE.call (j := 0) (by decide +kernel) (by decide +kernel) rfl (SA.cons (SE.var (by decide +kernel)) (SA.cons SE.int (SA.cons (SE.glob (by decide +kernel) rfl) SA.nil)))))) (SW.or1 (ST.not (ST.val (o_isTup (by decide +kernel) (by decide +kernel) (SE.var (by decide +kernel))))))))) (SSs.one (SS.ret SE.bl)) SSs.nil)
  (SSs.cons (SS.if (ST.not (ST.val (o_all (by decide +kernel) (SEF.val (SEF.lc (own := [(("one" : PySem.Str), 7)]) (by decide +kernel) rfl (SI.walk (SE.var (by decide +kernel))) (Keeps.tn (by decide +kernel) (by decide)) STs.nil (SE.and (SE.call (j := 0) (by decide +kernel) (by decide +kernel) rfl (SA.cons (SE.var (by decide +kernel)) (SA.cons SE.int (SA.cons SE.int SA.nil)))) (SE.and1 (SE.call (j := 0) (by decide +kernel) (by decide +kernel) rfl (SA.cons (o_item (SE.var (by decide +kernel)) SE.int) (SA.cons (SE.bin o_sub SE.int (SE.var (by decide +kernel))) (SA.cons (SE.var (by decide +kernel)) SA.nil))))))) lo_lc)))) (SSs.one (SS.ret SE.bl)) SSs.nil)
  (SSs.cons (SS.if (ST.not (ST.val (SE.call (j := 0) (by decide +kernel) (by decide +kernel) rfl (SA.cons (SEF.val (SEF.lc (own := [(("place" : PySem.Str), 8), (("what" : PySem.Str), 9)]) (by decide +kernel) rfl (SI.walk (SE.var (by decide +kernel))) (Keeps.tt (Keep2.cons (Keeps.tn (by decide +kernel) (by decide)) (Keep2.cons (Keeps.tn (by decide +kernel) (by decide)) Keep2.nil)) rfl) STs.nil (SE.var (by decide +kernel))) lo_lc) SA.nil)))) (SSs.one (SS.ret SE.bl)) SSs.nil)
  (SSs.one (SS.ret (o_all (by decide +kernel) (SEF.val (SEF.lc (own := [(("place" : PySem.Str), 8), (("what" : PySem.Str), 9)]) (by decide +kernel) rfl (SI.walk (SE.var (by decide +kernel))) (Keeps.tt (Keep2.cons (Keeps.tn (by decide +kernel) (by decide)) (Keep2.cons (Keeps.tn (by decide +kernel) (by decide)) Keep2.nil)) rfl) STs.nil (SE.or (SE.call (j := 0) (by decide +kernel) (by decide +kernel) rfl (SA.cons (SE.var (by decide +kernel)) SA.nil)) (SE.and1 (SE.call (j := 0) (by decide +kernel) (by decide +kernel) rfl (SA.cons (SE.var (by decide +kernel)) (SA.cons (SE.bin o_sub (SE.var (by decide +kernel)) SE.int) SA.nil)))))) lo_lc))))))))))
abbrev n_is_weight : List PySem.Str := [("thing" : PySem.Str)]
theorem s_is_weight : SSs Γ n_is_weight (L2.defScope (top 19)) (L2.defBody (top 19)) b_is_weight :=
  (SSs.one (SS.ret (SE.call (j := 0) (by decide +kernel) (by decide +kernel) rfl (SA.cons (SE.var (by decide +kernel)) (SA.cons SE.int (SA.cons (SE.glob (by decide +kernel) rfl) SA.nil))))))
abbrev n_arms_in : List PySem.Str := [("arm" : PySem.Str), ("place" : PySem.Str), ("what" : PySem.Str)]
theorem s_arms_in : SSs Γ n_arms_in (L2.defScope (top 20)) (L2.defBody (top 20)) b_arms_in :=
  (SSs.one (SS.ret (SE.bin o_add SE.int (o_sum (by decide +kernel) (SEF.val (SEF.lc (own := [(("place" : PySem.Str), 1), (("what" : PySem.Str), 2)]) (by decide +kernel) rfl (SI.walk (o_item (SE.var (by decide +kernel)) SE.int)) (Keeps.tt (Keep2.cons (Keeps.tn (by decide +kernel) (by decide)) (Keep2.cons (Keeps.tn (by decide +kernel) (by decide)) Keep2.nil)) rfl) (STs.one (ST.val (o_isTup (by decide +kernel) (by decide +kernel) (SE.var (by decide +kernel))))) (SE.call (j := 0) (by decide +kernel) (by decide +kernel) rfl (SA.cons (SE.var (by decide +kernel)) SA.nil))) lo_lc)))))
abbrev n_is_arm : List PySem.Str := [("thing" : PySem.Str)]
theorem s_is_arm : SSs Γ n_is_arm (L2.defScope (top 21)) (L2.defBody (top 21)) b_is_arm :=
  (SSs.one (SS.ret (SE.and (SE.call (j := 0) (by decide +kernel) (by decide +kernel) rfl (SA.cons (SE.var (by decide +kernel)) (SA.cons (SE.glob (by decide +kernel) rfl) SA.nil))) (SE.and1 (SE.cmp o_le (SE.call (j := 0) (by decide +kernel) (by decide +kernel) rfl (SA.cons (SE.var (by decide +kernel)) SA.nil)) (SE.glob (by decide +kernel) rfl) rfl)))))
abbrev n_need_arm : List PySem.Str := [("thing" : PySem.Str)]
theorem s_need_arm : SSs Γ n_need_arm (L2.defScope (top 22)) (L2.defBody (top 22)) b_need_arm :=
  (SSs.one (SS.if (ST.not (ST.val (SE.call (j := 0) (by decide +kernel) (by decide +kernel) rfl (SA.cons (SE.var (by decide +kernel)) SA.nil)))) (SSs.one SS.stuck) SSs.nil))
abbrev n_paths_by : List PySem.Str := [("arm" : PySem.Str), ("found" : PySem.Str), ("place" : PySem.Str), ("what" : PySem.Str), ("path" : PySem.Str)]
theorem s_paths_by : SSs Γ n_paths_by (L2.defScope (top 23)) (L2.defBody (top 23)) b_paths_by :=
  (SSs.cons (SS.asg (SEF.fresh (SEF.lst (SA.cons (SE.tup SA.nil) SA.nil)) lo_lst) (SG.tn (by decide +kernel)))
  (SSs.cons (SS.for (SI.walk (o_item (SE.var (by decide +kernel)) SE.int)) (SG.tt (SGs.cons (SG.tn (by decide +kernel)) (SGs.cons (SG.tn (by decide +kernel)) SGs.nil)) rfl) (SSs.one (SS.if (ST.val (o_isTup (by decide +kernel) (by decide +kernel) (SE.var (by decide +kernel)))) (SSs.one (SS.expr (SE.extend (SE.var (by decide +kernel)) (SEF.val (SEF.lc (own := [(("path" : PySem.Str), 4)]) (by decide +kernel) rfl (SI.walk (SE.call (j := 0) (by decide +kernel) (by decide +kernel) rfl (SA.cons (SE.var (by decide +kernel)) SA.nil))) (Keeps.tn (by decide +kernel) (by decide)) STs.nil (SE.bin o_add (SE.tup (SA.cons (SE.var (by decide +kernel)) SA.nil)) (SE.var (by decide +kernel)))) lo_lc) ⟨fun _ => rfl, fun _ => rfl, rfl, fun _ => rfl, fun _ => rfl⟩))) SSs.nil)))
  (SSs.one (SS.ret (o_tuple (by decide +kernel) (SE.var (by decide +kernel)))))))
abbrev n_is_path : List PySem.Str := [("arm" : PySem.Str), ("thing" : PySem.Str), ("one" : PySem.Str)]
theorem s_is_path : SSs Γ n_is_path (L2.defScope (top 24)) (L2.defBody (top 24)) b_is_path :=
  (SSs.one (SS.ret (SE.and (o_isTup (by decide +kernel) (by decide +kernel) (SE.var (by decide +kernel))) (SE.and (o_all (by decide +kernel) (SEF.val (SEF.lc (own := [(("one" : PySem.Str), 2)]) (by decide +kernel) rfl (SI.walk (SE.var (by decide +kernel))) (Keeps.tn (by decide +kernel) (by decide)) STs.nil (SE.call (j := 0) (by decide +kernel) (by decide +kernel) rfl (SA.cons (SE.var (by decide +kernel)) SA.nil))) lo_lc)) (SE.and1 (SE.cmp o_in (SE.var (by decide +kernel)) (SE.call (j := 0) (by decide +kernel) (by decide +kernel) rfl (SA.cons (SE.var (by decide +kernel)) SA.nil)) rfl))))))
abbrev n_need_path : List PySem.Str := [("arm" : PySem.Str), ("thing" : PySem.Str)]
theorem s_need_path : SSs Γ n_need_path (L2.defScope (top 25)) (L2.defBody (top 25)) b_need_path :=
  (SSs.cons (SS.expr (SE.call (j := 0) (by decide +kernel) (by decide +kernel) rfl (SA.cons (SE.var (by decide +kernel)) SA.nil)))
  (SSs.one (SS.if (ST.not (ST.val (SE.call (j := 0) (by decide +kernel) (by decide +kernel) rfl (SA.cons (SE.var (by decide +kernel)) (SA.cons (SE.var (by decide +kernel)) SA.nil))))) (SSs.one SS.stuck) SSs.nil)))
abbrev n_arm_by : List PySem.Str := [("arm" : PySem.Str), ("path" : PySem.Str), ("here" : PySem.Str), ("step" : PySem.Str)]
theorem s_arm_by : SSs Γ n_arm_by (L2.defScope (top 26)) (L2.defBody (top 26)) b_arm_by :=
  (SSs.cons (SS.asg (SE.var (by decide +kernel)) (SG.tn (by decide +kernel)))
  (SSs.cons (SS.for (SI.walk (SE.var (by decide +kernel))) (SG.tn (by decide +kernel)) (SSs.one (SS.asg (o_item (SED.val (SED.dictOf (by decide +kernel) (SEF.val (SEF.list (by decide +kernel) (o_item (SE.var (by decide +kernel)) SE.int)) lo_list)) do_dictOf) (SE.var (by decide +kernel))) (SG.tn (by decide +kernel)))))
  (SSs.one (SS.ret (SE.var (by decide +kernel))))))
abbrev n_is_bead : List PySem.Str := [("arm" : PySem.Str), ("thing" : PySem.Str)]
theorem s_is_bead : SSs Γ n_is_bead (L2.defScope (top 32)) (L2.defBody (top 32)) b_is_bead :=
  (SSs.one (SS.ret (SE.and (SE.call (j := 0) (by decide +kernel) (by decide +kernel) rfl (SA.cons (SE.var (by decide +kernel)) (SA.cons SE.int (SA.cons SE.int SA.nil)))) (SE.and (SE.call (j := 0) (by decide +kernel) (by decide +kernel) rfl (SA.cons (o_item (SE.var (by decide +kernel)) SE.int) (SA.cons (SE.bin o_sub SE.int (o_item (SE.var (by decide +kernel)) SE.int)) (SA.cons (o_item (SE.var (by decide +kernel)) SE.int) SA.nil)))) (SE.and1 (SE.call (j := 0) (by decide +kernel) (by decide +kernel) rfl (SA.cons (o_item (SE.var (by decide +kernel)) SE.int) (SA.cons SE.int (SA.cons (SE.glob (by decide +kernel) rfl) SA.nil)))))))))
abbrev n_are_beads : List PySem.Str := [("arm" : PySem.Str), ("thing" : PySem.Str), ("one" : PySem.Str)]
theorem s_are_beads : SSs Γ n_are_beads (L2.defScope (top 33)) (L2.defBody (top 33)) b_are_beads :=
  (SSs.one (SS.ret (SE.and (SE.call (j := 0) (by decide +kernel) (by decide +kernel) rfl (SA.cons (SE.var (by decide +kernel)) (SA.cons SE.int (SA.cons (o_item (SE.var (by decide +kernel)) SE.int) SA.nil)))) (SE.and (o_all (by decide +kernel) (SEF.val (SEF.lc (own := [(("one" : PySem.Str), 2)]) (by decide +kernel) rfl (SI.walk (SE.var (by decide +kernel))) (Keeps.tn (by decide +kernel) (by decide)) STs.nil (SE.call (j := 0) (by decide +kernel) (by decide +kernel) rfl (SA.cons (SE.var (by decide +kernel)) (SA.cons (SE.var (by decide +kernel)) SA.nil)))) lo_lc)) (SE.and1 (SE.call (j := 0) (by decide +kernel) (by decide +kernel) rfl (SA.cons (SE.var (by decide +kernel)) SA.nil)))))))
abbrev n_is_standing_by : List PySem.Str := [("arm" : PySem.Str), ("thing" : PySem.Str), ("own" : PySem.Str), ("path" : PySem.Str), ("one" : PySem.Str)]
theorem s_is_standing_by : SSs Γ n_is_standing_by (L2.defScope (top 34)) (L2.defBody (top 34)) b_is_standing_by :=
  (SSs.cons (SS.asg (SE.call (j := 0) (by decide +kernel) (by decide +kernel) rfl (SA.cons (SE.var (by decide +kernel)) SA.nil)) (SG.tn (by decide +kernel)))
  (SSs.cons (SS.if (ST.not (ST.val (SE.call (j := 0) (by decide +kernel) (by decide +kernel) rfl (SA.cons (SE.var (by decide +kernel)) (SA.cons (o_len (by decide +kernel) (SE.var (by decide +kernel))) (SA.cons (o_len (by decide +kernel) (SE.var (by decide +kernel))) SA.nil)))))) (SSs.one (SS.ret SE.bl)) SSs.nil)
  (SSs.one (SS.ret (o_all (by decide +kernel) (SEF.val (SEF.lc (own := [(("path" : PySem.Str), 3), (("one" : PySem.Str), 4)]) (by decide +kernel) rfl (SI.zip (by decide +kernel) (SE.var (by decide +kernel)) (SE.var (by decide +kernel))) (Keeps.tt (Keep2.cons (Keeps.tn (by decide +kernel) (by decide)) (Keep2.cons (Keeps.tn (by decide +kernel) (by decide)) Keep2.nil)) rfl) STs.nil (SE.call (j := 0) (by decide +kernel) (by decide +kernel) rfl (SA.cons (SE.call (j := 0) (by decide +kernel) (by decide +kernel) rfl (SA.cons (SE.var (by decide +kernel)) (SA.cons (SE.var (by decide +kernel)) SA.nil))) (SA.cons (SE.var (by decide +kernel)) SA.nil)))) lo_lc))))))
abbrev n_need_standing : List PySem.Str := [("arm" : PySem.Str), ("thing" : PySem.Str)]
theorem s_need_standing : SSs Γ n_need_standing (L2.defScope (top 35)) (L2.defBody (top 35)) b_need_standing :=
  (SSs.cons (SS.expr (SE.call (j := 0) (by decide +kernel) (by decide +kernel) rfl (SA.cons (SE.var (by decide +kernel)) SA.nil)))
  (SSs.one (SS.if (ST.not (ST.val (SE.call (j := 0) (by decide +kernel) (by decide +kernel) rfl (SA.cons (SE.var (by decide +kernel)) (SA.cons (SE.var (by decide +kernel)) SA.nil))))) (SSs.one SS.stuck) SSs.nil)))
abbrev n_Seenu__initu_ : List PySem.Str := [("self" : PySem.Str), ("arm" : PySem.Str), ("standing" : PySem.Str)]
theorem s_Seenu__initu_ : SSs Γ n_Seenu__initu_ (L2.defScope (mem 36 0)) (L2.defBody (mem 36 0)) b_Seenu__initu_ :=
  (SSs.cons (SS.asg (SE.tup (SA.cons (SED.fresh SED.dict0T lo_dict) (SA.cons (SED.fresh SED.dict0T lo_dict) SA.nil))) (SG.tt (SGs.cons (SG.tattr rfl (by decide +kernel) (SE.var (by decide +kernel))) (SGs.cons (SG.tattr rfl (by decide +kernel) (SE.var (by decide +kernel))) SGs.nil)) rfl))
  (SSs.cons (SS.asg (SED.val (SED.dictOf (by decide +kernel) (SEF.val (SEF.lzip (by decide +kernel) (by decide +kernel) (SE.call (j := 0) (by decide +kernel) (by decide +kernel) rfl (SA.cons (SE.var (by decide +kernel)) SA.nil)) (SE.var (by decide +kernel))) lo_lzip)) do_dictOf) (SG.tattr rfl (by decide +kernel) (SE.var (by decide +kernel))))
  (SSs.one (SS.expr (SE.meth (j := 0) rfl (by decide +kernel) (by decide +kernel) rfl (SE.var (by decide +kernel)) (SA.cons (SE.var (by decide +kernel)) (SA.cons (SE.tup SA.nil) SA.nil)))))))
abbrev n_Seen_look : List PySem.Str := [("self" : PySem.Str), ("arm" : PySem.Str), ("path" : PySem.Str), ("some" : PySem.Str), ("place" : PySem.Str), ("what" : PySem.Str), ("weight" : PySem.Str)]
theorem s_Seen_look : SSs Γ n_Seen_look (L2.defScope (mem 36 1)) (L2.defBody (mem 36 1)) b_Seen_look :=
  (SSs.cons (SS.asg (SEF.fresh (SEF.list (by decide +kernel) (o_item (SE.attr rfl (by decide +kernel) (SE.var (by decide +kernel))) (SE.var (by decide +kernel)))) lo_list) (SG.tn (by decide +kernel)))
  (SSs.cons (SS.for (SI.walk (o_item (SE.var (by decide +kernel)) SE.int)) (SG.tt (SGs.cons (SG.tn (by decide +kernel)) (SGs.cons (SG.tn (by decide +kernel)) SGs.nil)) rfl) (SSs.one (SS.expr (SE.append (SE.var (by decide +kernel)) (SE.tup (SA.cons (SE.var (by decide +kernel)) (SA.cons (SE.ite (ST.val (o_isTup (by decide +kernel) (by decide +kernel) (SE.var (by decide +kernel)))) (SE.meth (j := 0) rfl (by decide +kernel) (by decide +kernel) rfl (SE.var (by decide +kernel)) (SA.cons (SE.var (by decide +kernel)) (SA.cons (SE.bin o_add (SE.var (by decide +kernel)) (SE.tup (SA.cons (SE.var (by decide +kernel)) SA.nil))) SA.nil))) (SE.var (by decide +kernel))) SA.nil))) ⟨fun _ => rfl, fun _ => rfl, rfl, fun _ => rfl, fun _ => rfl⟩))))
  (SSs.cons (SS.asg (o_sum (by decide +kernel) (SEF.val (SEF.lc (own := [(("place" : PySem.Str), 4), (("weight" : PySem.Str), 6)]) (by decide +kernel) rfl (SI.walk (SE.var (by decide +kernel))) (Keeps.tt (Keep2.cons (Keeps.tn (by decide +kernel) (by decide)) (Keep2.cons (Keeps.tn (by decide +kernel) (by decide)) Keep2.nil)) rfl) STs.nil (SE.var (by decide +kernel))) lo_lc)) (SG.tsub (SE.attr rfl (by decide +kernel) (SE.var (by decide +kernel))) (SE.var (by decide +kernel))))
  (SSs.cons (SS.asg (o_sum (by decide +kernel) (SEF.val (SEF.lc (own := [(("place" : PySem.Str), 4), (("weight" : PySem.Str), 6)]) (by decide +kernel) rfl (SI.walk (SE.var (by decide +kernel))) (Keeps.tt (Keep2.cons (Keeps.tn (by decide +kernel) (by decide)) (Keep2.cons (Keeps.tn (by decide +kernel) (by decide)) Keep2.nil)) rfl) STs.nil (SE.bin o_mulx (SE.var (by decide +kernel)) (SE.var (by decide +kernel)))) lo_lc)) (SG.tsub (SE.attr rfl (by decide +kernel) (SE.var (by decide +kernel))) (SE.var (by decide +kernel))))
  (SSs.one (SS.ret (o_item (SE.attr rfl (by decide +kernel) (SE.var (by decide +kernel))) (SE.var (by decide +kernel)))))))))
abbrev n_word_by : List PySem.Str := [("arm" : PySem.Str), ("tilt_now" : PySem.Str)]
theorem s_word_by : SSs Γ n_word_by (L2.defScope (top 37)) (L2.defBody (top 37)) b_word_by :=
  (SSs.cons (SS.if (ST.cmp o_lt (SE.var (by decide +kernel)) (SE.bin o_sub SE.int (o_item (SE.var (by decide +kernel)) SE.int)) rfl) (SSs.one (SS.ret (SE.glob (by decide +kernel) rfl))) SSs.nil)
  (SSs.one (SS.ret (SE.ite (ST.cmp o_gt (SE.var (by decide +kernel)) (o_item (SE.var (by decide +kernel)) SE.int) rfl) (SE.glob (by decide +kernel) rfl) (SE.glob (by decide +kernel) rfl)))))
abbrev n_words_by : List PySem.Str := [("arm" : PySem.Str), ("standing" : PySem.Str), ("seen" : PySem.Str), ("path" : PySem.Str)]
theorem s_words_by : SSs Γ n_words_by (L2.defScope (top 38)) (L2.defBody (top 38)) b_words_by :=
  (SSs.cons (SS.asg (SE.new (j := 0) (by decide +kernel) (by decide +kernel) rfl (SA.cons (SE.var (by decide +kernel)) (SA.cons (SE.var (by decide +kernel)) SA.nil))) (SG.tn (by decide +kernel)))
  (SSs.one (SS.ret (SED.val (SED.dcT (own := [(("path" : PySem.Str), 3)]) (by decide +kernel) rfl (SI.walk (SE.call (j := 0) (by decide +kernel) (by decide +kernel) rfl (SA.cons (SE.var (by decide +kernel)) SA.nil))) (Keeps.tn (by decide +kernel) (by decide)) (SE.var (by decide +kernel)) (SE.call (j := 0) (by decide +kernel) (by decide +kernel) rfl (SA.cons (SE.call (j := 0) (by decide +kernel) (by decide +kernel) rfl (SA.cons (SE.var (by decide +kernel)) (SA.cons (SE.var (by decide +kernel)) SA.nil))) (SA.cons (o_item (SE.attr rfl (by decide +kernel) (SE.var (by decide +kernel))) (SE.var (by decide +kernel))) SA.nil)))) do_dc))))
abbrev n_need_place_of : List PySem.Str := [("arm" : PySem.Str), ("standing" : PySem.Str), ("path" : PySem.Str)]
theorem s_need_place_of : SSs Γ n_need_place_of (L2.defScope (top 39)) (L2.defBody (top 39)) b_need_place_of :=
  (SSs.cons (SS.expr (SE.call (j := 0) (by decide +kernel) (by decide +kernel) rfl (SA.cons (SE.var (by decide +kernel)) (SA.cons (SE.var (by decide +kernel)) SA.nil))))
  (SSs.one (SS.expr (SE.call (j := 0) (by decide +kernel) (by decide +kernel) rfl (SA.cons (SE.var (by decide +kernel)) (SA.cons (SE.var (by decide +kernel)) SA.nil))))))
abbrev n_load : List PySem.Str := [("arm" : PySem.Str), ("standing" : PySem.Str), ("path" : PySem.Str)]
theorem s_load : SSs Γ n_load (L2.defScope (top 40)) (L2.defBody (top 40)) b_load :=
  (SSs.cons (SS.expr (SE.call (j := 0) (by decide +kernel) (by decide +kernel) rfl (SA.cons (SE.var (by decide +kernel)) (SA.cons (SE.var (by decide +kernel)) (SA.cons (SE.var (by decide +kernel)) SA.nil)))))
  (SSs.one (SS.ret (o_item (SE.attr rfl (by decide +kernel) (SE.new (j := 0) (by decide +kernel) (by decide +kernel) rfl (SA.cons (SE.var (by decide +kernel)) (SA.cons (SE.var (by decide +kernel)) SA.nil)))) (SE.var (by decide +kernel))))))
abbrev n_tilt : List PySem.Str := [("arm" : PySem.Str), ("standing" : PySem.Str), ("path" : PySem.Str)]
theorem s_tilt : SSs Γ n_tilt (L2.defScope (top 41)) (L2.defBody (top 41)) b_tilt :=
  (SSs.cons (SS.expr (SE.call (j := 0) (by decide +kernel) (by decide +kernel) rfl (SA.cons (SE.var (by decide +kernel)) (SA.cons (SE.var (by decide +kernel)) (SA.cons (SE.var (by decide +kernel)) SA.nil)))))
  (SSs.one (SS.ret (o_item (SE.attr rfl (by decide +kernel) (SE.new (j := 0) (by decide +kernel) (by decide +kernel) rfl (SA.cons (SE.var (by decide +kernel)) (SA.cons (SE.var (by decide +kernel)) SA.nil)))) (SE.var (by decide +kernel))))))
abbrev n_word : List PySem.Str := [("arm" : PySem.Str), ("standing" : PySem.Str), ("path" : PySem.Str)]
theorem s_word : SSs Γ n_word (L2.defScope (top 42)) (L2.defBody (top 42)) b_word :=
  (SSs.cons (SS.expr (SE.call (j := 0) (by decide +kernel) (by decide +kernel) rfl (SA.cons (SE.var (by decide +kernel)) (SA.cons (SE.var (by decide +kernel)) (SA.cons (SE.var (by decide +kernel)) SA.nil)))))
  (SSs.one (SS.ret (o_item (SE.call (j := 0) (by decide +kernel) (by decide +kernel) rfl (SA.cons (SE.var (by decide +kernel)) (SA.cons (SE.var (by decide +kernel)) SA.nil))) (SE.var (by decide +kernel))))))
abbrev n__law_cell_at : List PySem.Str := [("_law_script" : PySem.Str), ("_law_k" : PySem.Str)]
theorem s__law_cell_at : SSs Γ n__law_cell_at (L2.defScope (top 44)) (L2.defBody (top 44)) b__law_cell_at :=
  (SSs.cons (SS.if (ST.cmp o_lt (SE.var (by decide +kernel)) (o_len (by decide +kernel) (SE.var (by decide +kernel))) rfl) (SSs.one (SS.ret (o_item (SE.var (by decide +kernel)) (SE.var (by decide +kernel))))) SSs.nil)
  (SSs.one (SS.ret SE.int)))
abbrev n__law_pen : List PySem.Str := [("_law_cell" : PySem.Str)]
theorem s__law_pen : SSs Γ n__law_pen (L2.defScope (top 45)) (L2.defBody (top 45)) b__law_pen :=
  (SSs.one (SS.ret (SEF.fresh (SEF.lst (SA.cons (o_max2 (by decide +kernel) SE.int (SE.bin o_sub (SE.var (by decide +kernel)) (SE.bin o_pow SE.int SE.int))) (SA.cons (SE.bin o_add (SE.bin o_mod (SE.var (by decide +kernel)) SE.int) SE.int) (SA.cons SE.int SA.nil)))) lo_lst)))
abbrev n__law_draw : List PySem.Str := [("_law_pen_here" : PySem.Str), ("_law_many" : PySem.Str), ("_law_mixed" : PySem.Str), ("_law_found" : PySem.Str)]
theorem s__law_draw : SSs Γ n__law_draw (L2.defScope (top 46)) (L2.defBody (top 46)) b__law_draw :=
  (SSs.cons (SS.if (ST.cmp o_gt (o_item (SE.var (by decide +kernel)) SE.int) SE.int rfl) (SSs.cons (SS.asg (SE.bin o_mod (o_item (SE.var (by decide +kernel)) SE.int) (SE.var (by decide +kernel))) (SG.tn (by decide +kernel)))
  (SSs.cons (SS.asg (SE.bin o_fdiv (o_item (SE.var (by decide +kernel)) SE.int) (SE.var (by decide +kernel))) (SG.tsub (SE.var (by decide +kernel)) SE.int))
  (SSs.one (SS.ret (SE.var (by decide +kernel)))))) SSs.nil)
  (SSs.cons (SS.asg (SE.bin o_add (o_item (SE.var (by decide +kernel)) SE.int) SE.int) (SG.tsub (SE.var (by decide +kernel)) SE.int))
  (SSs.cons (SS.asg (SE.bin o_mod (SE.bin o_add (SE.bin o_add (SE.bin o_mulx (o_item (SE.var (by decide +kernel)) SE.int) SE.int) (SE.bin o_mulx SE.int (o_item (SE.var (by decide +kernel)) SE.int))) SE.int) SE.int) (SG.tsub (SE.var (by decide +kernel)) SE.int))
  (SSs.cons (SS.asg (SE.bin o_mod (SE.bin o_add (SE.bin o_add (SE.bin o_mulx (o_item (SE.var (by decide +kernel)) SE.int) (o_item (SE.var (by decide +kernel)) SE.int)) (SE.bin o_mulx SE.int (o_item (SE.var (by decide +kernel)) SE.int))) SE.int) SE.int) (SG.tn (by decide +kernel)))
  (SSs.cons (SS.asg (SE.bin o_mod (SE.bin o_add (SE.bin o_mulx (SE.var (by decide +kernel)) (SE.var (by decide +kernel))) (SE.bin o_mulx SE.int (SE.var (by decide +kernel)))) SE.int) (SG.tn (by decide +kernel)))
  (SSs.one (SS.ret (SE.bin o_mod (SE.bin o_fdiv (SE.var (by decide +kernel)) SE.int) (SE.var (by decide +kernel))))))))))
abbrev n__law_same : List PySem.Str := [("_law_found" : PySem.Str), ("_law_due" : PySem.Str)]
theorem s__law_same : SSs Γ n__law_same (L2.defScope (top 47)) (L2.defBody (top 47)) b__law_same :=
  (SSs.one (SS.ret (SE.cmp o_eq (o_repr (by decide +kernel) (SE.var (by decide +kernel))) (o_repr (by decide +kernel) (SE.var (by decide +kernel))) rfl)))
abbrev n__law_lone : List PySem.Str := [("_law_pen_here" : PySem.Str), ("_law_most" : PySem.Str), ("_law_held" : PySem.Str), ("_law_slack" : PySem.Str)]
theorem s__law_lone : SSs Γ n__law_lone (L2.defScope (top 48)) (L2.defBody (top 48)) b__law_lone :=
  (SSs.cons (SS.asg (o_item (SEF.val (SEF.lst (SA.cons SE.int (SA.cons SE.int (SA.cons SE.int (SA.cons SE.int (SA.cons SE.int (SA.cons SE.int SA.nil))))))) lo_lst) (SE.call (j := 0) (by decide +kernel) (by decide +kernel) rfl (SA.cons (SE.var (by decide +kernel)) (SA.cons SE.int SA.nil)))) (SG.tn (by decide +kernel)))
  (SSs.one (SS.ret (SE.tup (SA.cons (SE.bin o_add SE.int (SE.call (j := 0) (by decide +kernel) (by decide +kernel) rfl (SA.cons (SE.var (by decide +kernel)) (SA.cons (SE.var (by decide +kernel)) SA.nil)))) (SA.cons (SE.bin o_add SE.int (SE.call (j := 0) (by decide +kernel) (by decide +kernel) rfl (SA.cons (SE.var (by decide +kernel)) (SA.cons (SE.var (by decide +kernel)) SA.nil)))) (SA.cons (SE.var (by decide +kernel)) (SA.cons (SE.bin o_add SE.int (SE.call (j := 0) (by decide +kernel) (by decide +kernel) rfl (SA.cons (SE.var (by decide +kernel)) (SA.cons (SE.var (by decide +kernel)) SA.nil)))) (SA.cons (SE.tup SA.nil) SA.nil)))))))))
abbrev n__law_hung : List PySem.Str := [("_law_pen_here" : PySem.Str), ("_law_arm_here" : PySem.Str), ("_law_things" : PySem.Str), ("_law_spots" : PySem.Str), ("_law_rows" : PySem.Str), ("_law_thing" : PySem.Str), ("_law_left" : PySem.Str), ("_law_right_here" : PySem.Str), ("_law_place" : PySem.Str)]
theorem s__law_hung : SSs Γ n__law_hung (L2.defScope (top 49)) (L2.defBody (top 49)) b__law_hung :=
  (SSs.cons (SS.asg (SE.slice (SE.var (by decide +kernel)) trivial SE.int) (SG.tt (SGs.cons (SG.tn (by decide +kernel)) (SGs.cons (SG.tn (by decide +kernel)) SGs.nil)) rfl))
  (SSs.cons (SS.asg (SEF.fresh (SEF.addL (SEF.val (SEF.lst (SA.cons (SE.bin o_sub SE.int (SE.var (by decide +kernel))) (SA.cons (SE.var (by decide +kernel)) SA.nil))) lo_lst) (SEF.val (SEF.lc (own := [(("_law_place" : PySem.Str), 8)]) (by decide +kernel) rfl (SI.range2 (by decide +kernel) (SE.bin o_sub SE.int (SE.var (by decide +kernel))) (SE.var (by decide +kernel))) (Keeps.tn (by decide +kernel) (by decide)) STs.nil (SE.var (by decide +kernel))) lo_lc)) lo_addL) (SG.tn (by decide +kernel)))
  (SSs.cons (SS.asg (SED.fresh SED.dict0K lo_dict) (SG.tn (by decide +kernel)))
  (SSs.cons (SS.for (SI.walk (SE.slice (SE.var (by decide +kernel)) trivial (o_len (by decide +kernel) (SE.var (by decide +kernel))))) (SG.tn (by decide +kernel)) (SSs.one (SS.asg (SE.var (by decide +kernel)) (SG.tsub (SE.var (by decide +kernel)) (SE.popAt (SE.var (by decide +kernel)) (SE.call (j := 0) (by decide +kernel) (by decide +kernel) rfl (SA.cons (SE.var (by decide +kernel)) (SA.cons (o_min2 (by decide +kernel) SE.int (o_len (by decide +kernel) (SE.var (by decide +kernel)))) SA.nil))) ⟨fun _ => rfl, fun _ => rfl, rfl, fun _ => rfl, fun _ => rfl⟩)))))
  (SSs.one (SS.ret (SE.bin o_add (SE.slice (SE.var (by decide +kernel)) trivial SE.int) (SE.tup (SA.cons (o_tuple (by decide +kernel) (SEF.val (SEF.lc (own := [(("_law_place" : PySem.Str), 8)]) (by decide +kernel) rfl (SI.walk (SEF.val (o_sortedD (by decide +kernel) (SE.var (by decide +kernel))) lo_sortedD)) (Keeps.tn (by decide +kernel) (by decide)) STs.nil (SE.tup (SA.cons (SE.var (by decide +kernel)) (SA.cons (o_item (SE.var (by decide +kernel)) (SE.var (by decide +kernel))) SA.nil)))) lo_lc)) SA.nil)))))))))
abbrev n__law_arm : List PySem.Str := [("_law_pen_here" : PySem.Str), ("_law_most" : PySem.Str), ("_law_held" : PySem.Str), ("_law_arms" : PySem.Str), ("_law_many" : PySem.Str), ("_law_some" : PySem.Str), ("_law_weights" : PySem.Str), ("_law_lap" : PySem.Str)]
theorem s__law_arm : SSs Γ n__law_arm (L2.defScope (top 50)) (L2.defBody (top 50)) b__law_arm :=
  (SSs.cons (SS.asg (SE.bin o_add SE.int (SE.call (j := 0) (by decide +kernel) (by decide +kernel) rfl (SA.cons (SE.var (by decide +kernel)) (SA.cons (SE.var (by decide +kernel)) SA.nil)))) (SG.tn (by decide +kernel)))
  (SSs.cons (SS.setLc (own := [(("_law_lap" : PySem.Str), 7)]) (by decide +kernel) (by decide +kernel) rfl (SI.range1 (by decide +kernel) (SE.var (by decide +kernel))) (Keeps.tn (by decide +kernel) (by decide)) STs.nil (SE.call (j := 0) (by decide +kernel) (by decide +kernel) rfl (SA.cons (SE.var (by decide +kernel)) (SA.cons (SE.var (by decide +kernel)) (SA.cons (SE.var (by decide +kernel)) SA.nil))))  (fun _ _ _ => tF_val lo_lc))
  (SSs.cons (SS.setLc (own := [(("_law_lap" : PySem.Str), 7)]) (by decide +kernel) (by decide +kernel) rfl (SI.range1 (by decide +kernel) (SE.call (j := 0) (by decide +kernel) (by decide +kernel) rfl (SA.cons (SE.var (by decide +kernel)) (SA.cons SE.int SA.nil)))) (Keeps.tn (by decide +kernel) (by decide)) STs.nil (SE.bin o_add SE.int (SE.call (j := 0) (by decide +kernel) (by decide +kernel) rfl (SA.cons (SE.var (by decide +kernel)) (SA.cons SE.int SA.nil))))  (fun _ _ _ => tF_val lo_lc))
  (SSs.cons (SS.if (SW.st (SW.or (ST.cmp o_lt (SE.var (by decide +kernel)) SE.int rfl) (SW.or1 (ST.cmp o_eq (SE.call (j := 0) (by decide +kernel) (by decide +kernel) rfl (SA.cons (SE.var (by decide +kernel)) (SA.cons SE.int SA.nil))) SE.int rfl)))) (SSs.one (SS.ret (SE.call (j := 0) (by decide +kernel) (by decide +kernel) rfl (SA.cons (SE.var (by decide +kernel)) (SA.cons (o_item (SE.var (by decide +kernel)) SE.int) (SA.cons (SE.bin o_add (SE.slice (SE.var (by decide +kernel)) SE.int trivial) (SE.var (by decide +kernel))) SA.nil)))))) SSs.nil)
  (SSs.one (SS.ret (SE.call (j := 0) (by decide +kernel) (by decide +kernel) rfl (SA.cons (SE.var (by decide +kernel)) (SA.cons (o_item (SE.var (by decide +kernel)) SE.int) (SA.cons (SE.bin o_add (SEF.val (SEF.lst (SA.cons (SE.call (j := 0) (by decide +kernel) (by decide +kernel) rfl (SA.cons (SE.var (by decide +kernel)) (SA.cons (o_item (SE.var (by decide +kernel)) SE.int) (SA.cons (SE.bin o_add (SE.slice (SE.var (by decide +kernel)) SE.int SE.int) (SE.var (by decide +kernel))) SA.nil)))) SA.nil)) lo_lst) (SE.slice (SE.var (by decide +kernel)) SE.int trivial)) SA.nil))))))))))
abbrev n__law_paths : List PySem.Str := [("_law_arm_here" : PySem.Str), ("_law_found" : PySem.Str), ("_law_place" : PySem.Str), ("_law_thing" : PySem.Str), ("_law_path" : PySem.Str)]
theorem s__law_paths : SSs Γ n__law_paths (L2.defScope (top 51)) (L2.defBody (top 51)) b__law_paths :=
  (SSs.cons (SS.asg (SEF.val (SEF.lst (SA.cons (SE.tup SA.nil) SA.nil)) lo_lst) (SG.tn (by decide +kernel)))
  (SSs.cons (SS.for (SI.walk (o_item (SE.var (by decide +kernel)) SE.int)) (SG.tt (SGs.cons (SG.tn (by decide +kernel)) (SGs.cons (SG.tn (by decide +kernel)) SGs.nil)) rfl) (SSs.one (SS.if (ST.val (o_isTup (by decide +kernel) (by decide +kernel) (SE.var (by decide +kernel)))) (SSs.one (SS.asg (SE.bin o_add (SE.var (by decide +kernel)) (SEF.val (SEF.lc (own := [(("_law_path" : PySem.Str), 4)]) (by decide +kernel) rfl (SI.walk (SE.call (j := 0) (by decide +kernel) (by decide +kernel) rfl (SA.cons (SE.var (by decide +kernel)) SA.nil))) (Keeps.tn (by decide +kernel) (by decide)) STs.nil (SE.bin o_add (SE.tup (SA.cons (SE.var (by decide +kernel)) SA.nil)) (SE.var (by decide +kernel)))) lo_lc)) (SG.tn (by decide +kernel)))) SSs.nil)))
  (SSs.one (SS.ret (SEF.val (o_sortx (by decide +kernel) (SE.var (by decide +kernel))) lo_sortx)))))
abbrev n__law_at : List PySem.Str := [("_law_arm_here" : PySem.Str), ("_law_path" : PySem.Str), ("_law_step" : PySem.Str), ("_law_place" : PySem.Str), ("_law_thing" : PySem.Str)]
theorem s__law_at : SSs Γ n__law_at (L2.defScope (top 52)) (L2.defBody (top 52)) b__law_at :=
  (SSs.cons (SS.for (SI.walk (SE.var (by decide +kernel))) (SG.tn (by decide +kernel)) (SSs.one (SS.asg (o_item (SEF.val (SEF.lc (own := [(("_law_place" : PySem.Str), 3), (("_law_thing" : PySem.Str), 4)]) (by decide +kernel) rfl (SI.walk (o_item (SE.var (by decide +kernel)) SE.int)) (Keeps.tt (Keep2.cons (Keeps.tn (by decide +kernel) (by decide)) (Keep2.cons (Keeps.tn (by decide +kernel) (by decide)) Keep2.nil)) rfl) (STs.one (ST.cmp o_eq (SE.var (by decide +kernel)) (SE.var (by decide +kernel)) rfl)) (SE.var (by decide +kernel))) lo_lc) SE.int) (SG.tn (by decide +kernel)))))
  (SSs.one (SS.ret (SE.var (by decide +kernel)))))
abbrev n__law_beads : List PySem.Str := [("_law_pen_here" : PySem.Str), ("_law_arm_here" : PySem.Str), ("_law_most" : PySem.Str), ("_law_many" : PySem.Str), ("_law_left" : PySem.Str), ("_law_right_here" : PySem.Str), ("_law_slack" : PySem.Str), ("_law_holds" : PySem.Str), ("_law_hung_here" : PySem.Str), ("_law_lap" : PySem.Str)]
theorem s__law_beads : SSs Γ n__law_beads (L2.defScope (top 53)) (L2.defBody (top 53)) b__law_beads :=
  (SSs.cons (SS.asg (SE.var (by decide +kernel)) (SG.tt (SGs.cons (SG.tn (by decide +kernel)) (SGs.cons (SG.tn (by decide +kernel)) (SGs.cons (SG.tn (by decide +kernel)) (SGs.cons (SG.tn (by decide +kernel)) (SGs.cons (SG.tn (by decide +kernel)) SGs.nil))))) rfl))
  (SSs.cons (SS.asg (SE.call (j := 0) (by decide +kernel) (by decide +kernel) rfl (SA.cons (SE.var (by decide +kernel)) (SA.cons (SE.bin o_add SE.int (o_min2 (by decide +kernel) (SE.var (by decide +kernel)) (SE.var (by decide +kernel)))) SA.nil))) (SG.tn (by decide +kernel)))
  (SSs.one (SS.ret (o_tuple (by decide +kernel) (SEF.val (o_sortx (by decide +kernel) (SEF.val (SEF.lc (own := [(("_law_lap" : PySem.Str), 9)]) (by decide +kernel) rfl (SI.range1 (by decide +kernel) (SE.var (by decide +kernel))) (Keeps.tn (by decide +kernel) (by decide)) STs.nil (SE.tup (SA.cons (SE.bin o_sub (SE.call (j := 0) (by decide +kernel) (by decide +kernel) rfl (SA.cons (SE.var (by decide +kernel)) (SA.cons (SE.bin o_add (SE.bin o_add (SE.var (by decide +kernel)) (SE.var (by decide +kernel))) SE.int) SA.nil))) (SE.var (by decide +kernel))) (SA.cons (SE.bin o_add SE.int (SE.call (j := 0) (by decide +kernel) (by decide +kernel) rfl (SA.cons (SE.var (by decide +kernel)) (SA.cons SE.int SA.nil)))) SA.nil)))) lo_lc)) lo_sortx))))))
abbrev n__law_standing : List PySem.Str := [("_law_pen_here" : PySem.Str), ("_law_arm_here" : PySem.Str), ("_law_most" : PySem.Str), ("_law_path" : PySem.Str)]
theorem s__law_standing : SSs Γ n__law_standing (L2.defScope (top 54)) (L2.defBody (top 54)) b__law_standing :=
  (SSs.one (SS.ret (o_tuple (by decide +kernel) (SEF.val (SEF.lc (own := [(("_law_path" : PySem.Str), 3)]) (by decide +kernel) rfl (SI.walk (SE.call (j := 0) (by decide +kernel) (by decide +kernel) rfl (SA.cons (SE.var (by decide +kernel)) SA.nil))) (Keeps.tn (by decide +kernel) (by decide)) STs.nil (SE.call (j := 0) (by decide +kernel) (by decide +kernel) rfl (SA.cons (SE.var (by decide +kernel)) (SA.cons (SE.call (j := 0) (by decide +kernel) (by decide +kernel) rfl (SA.cons (SE.var (by decide +kernel)) (SA.cons (SE.var (by decide +kernel)) SA.nil))) (SA.cons (SE.var (by decide +kernel)) SA.nil))))) lo_lc))))
abbrev n__law_load : List PySem.Str := [("_law_arm_here" : PySem.Str), ("_law_standing_here" : PySem.Str), ("_law_path" : PySem.Str), ("_law_total" : PySem.Str), ("_law_own" : PySem.Str), ("_law_beads_here" : PySem.Str), ("_law_place" : PySem.Str), ("_law_weight" : PySem.Str), ("_law_thing" : PySem.Str)]
theorem s__law_load : SSs Γ n__law_load (L2.defScope (top 55)) (L2.defBody (top 55)) b__law_load :=
  (SSs.cons (SS.asg SE.int (SG.tn (by decide +kernel)))
  (SSs.cons (SS.for (SI.zipM (by decide +kernel) (SE.call (j := 0) (by decide +kernel) (by decide +kernel) rfl (SA.cons (SE.var (by decide +kernel)) SA.nil)) (SE.var (by decide +kernel))) (SG.tt (SGs.cons (SG.tn (by decide +kernel)) (SGs.cons (SG.tn (by decide +kernel)) SGs.nil)) rfl) (SSs.one (SS.if (ST.cmp o_eq (SE.slice (SE.var (by decide +kernel)) trivial (o_len (by decide +kernel) (SE.var (by decide +kernel)))) (SE.var (by decide +kernel)) rfl) (SSs.cons (SS.asg (SE.bin o_add (SE.var (by decide +kernel)) (o_sum (by decide +kernel) (SEF.val (SEF.lc (own := [(("_law_place" : PySem.Str), 6), (("_law_weight" : PySem.Str), 7)]) (by decide +kernel) rfl (SI.walk (SE.var (by decide +kernel))) (Keeps.tt (Keep2.cons (Keeps.tn (by decide +kernel) (by decide)) (Keep2.cons (Keeps.tn (by decide +kernel) (by decide)) Keep2.nil)) rfl) STs.nil (SE.var (by decide +kernel))) lo_lc))) (SG.tn (by decide +kernel)))
  (SSs.one (SS.asg (SE.bin o_add (SE.var (by decide +kernel)) (o_sum (by decide +kernel) (SEF.val (SEF.lc (own := [(("_law_place" : PySem.Str), 6), (("_law_thing" : PySem.Str), 8)]) (by decide +kernel) rfl (SI.walk (o_item (SE.call (j := 0) (by decide +kernel) (by decide +kernel) rfl (SA.cons (SE.var (by decide +kernel)) (SA.cons (SE.var (by decide +kernel)) SA.nil))) SE.int)) (Keeps.tt (Keep2.cons (Keeps.tn (by decide +kernel) (by decide)) (Keep2.cons (Keeps.tn (by decide +kernel) (by decide)) Keep2.nil)) rfl) (STs.one (ST.val (o_isInt (by decide +kernel) (by decide +kernel) (SE.var (by decide +kernel))))) (SE.var (by decide +kernel))) lo_lc))) (SG.tn (by decide +kernel))))) SSs.nil)))
  (SSs.one (SS.ret (SE.var (by decide +kernel))))))
abbrev n__law_tilt : List PySem.Str := [("_law_arm_here" : PySem.Str), ("_law_standing_here" : PySem.Str), ("_law_path" : PySem.Str), ("_law_total" : PySem.Str), ("_law_here" : PySem.Str), ("_law_beads_here" : PySem.Str), ("_law_place" : PySem.Str), ("_law_thing" : PySem.Str), ("_law_weight" : PySem.Str)]
theorem s__law_tilt : SSs Γ n__law_tilt (L2.defScope (top 56)) (L2.defBody (top 56)) b__law_tilt :=
  (SSs.cons (SS.par (by decide +kernel) (SE.call (j := 0) (by decide +kernel) (by decide +kernel) rfl (SA.cons (SE.var (by decide +kernel)) (SA.cons (SE.var (by decide +kernel)) SA.nil))) (o_item (SE.var (by decide +kernel)) (SE.index (SE.call (j := 0) (by decide +kernel) (by decide +kernel) rfl (SA.cons (SE.var (by decide +kernel)) SA.nil)) (SE.var (by decide +kernel)) ⟨fun _ => rfl, fun _ => rfl, rfl, fun _ => rfl, fun _ => rfl⟩)))
  (SSs.cons (SS.asg (o_sum (by decide +kernel) (SEF.val (SEF.lc (own := [(("_law_place" : PySem.Str), 6), (("_law_weight" : PySem.Str), 8)]) (by decide +kernel) rfl (SI.walk (SE.var (by decide +kernel))) (Keeps.tt (Keep2.cons (Keeps.tn (by decide +kernel) (by decide)) (Keep2.cons (Keeps.tn (by decide +kernel) (by decide)) Keep2.nil)) rfl) STs.nil (SE.bin o_mulx (SE.var (by decide +kernel)) (SE.var (by decide +kernel)))) lo_lc)) (SG.tn (by decide +kernel)))
  (SSs.cons (SS.for (SI.walk (o_item (SE.var (by decide +kernel)) SE.int)) (SG.tt (SGs.cons (SG.tn (by decide +kernel)) (SGs.cons (SG.tn (by decide +kernel)) SGs.nil)) rfl) (SSs.one (SS.asg (SE.bin o_add (SE.var (by decide +kernel)) (SE.bin o_mulx (SE.var (by decide +kernel)) (SE.ite (ST.val (o_isInt (by decide +kernel) (by decide +kernel) (SE.var (by decide +kernel)))) (SE.var (by decide +kernel)) (SE.call (j := 0) (by decide +kernel) (by decide +kernel) rfl (SA.cons (SE.var (by decide +kernel)) (SA.cons (SE.var (by decide +kernel)) (SA.cons (SE.bin o_add (SE.var (by decide +kernel)) (SE.tup (SA.cons (SE.var (by decide +kernel)) SA.nil))) SA.nil))))))) (SG.tn (by decide +kernel)))))
  (SSs.one (SS.ret (SE.var (by decide +kernel)))))))
abbrev n__law_word : List PySem.Str := [("_law_arm_here" : PySem.Str), ("_law_standing_here" : PySem.Str), ("_law_path" : PySem.Str), ("_law_tilts" : PySem.Str), ("_law_slack" : PySem.Str)]
theorem s__law_word : SSs Γ n__law_word (L2.defScope (top 57)) (L2.defBody (top 57)) b__law_word :=
  (SSs.cons (SS.par (by decide +kernel) (SE.call (j := 0) (by decide +kernel) (by decide +kernel) rfl (SA.cons (SE.var (by decide +kernel)) (SA.cons (SE.var (by decide +kernel)) (SA.cons (SE.var (by decide +kernel)) SA.nil)))) (o_item (SE.call (j := 0) (by decide +kernel) (by decide +kernel) rfl (SA.cons (SE.var (by decide +kernel)) (SA.cons (SE.var (by decide +kernel)) SA.nil))) SE.int))
  (SSs.one (SS.ret (SE.ite (ST.cmp o_le (o_abs (by decide +kernel) (SE.var (by decide +kernel))) (SE.var (by decide +kernel)) rfl) (SE.str rfl) (SE.ite (ST.cmp o_gt (SE.var (by decide +kernel)) SE.int rfl) (SE.str rfl) (SE.str rfl))))))
abbrev n__law_right : List PySem.Str := [("_law_arm_here" : PySem.Str), ("_law_standing_here" : PySem.Str), ("_law_stood" : PySem.Str), ("_law_path" : PySem.Str), ("_law_owed" : PySem.Str), ("_law_lap" : PySem.Str)]
theorem s__law_right : SSs Γ n__law_right (L2.defScope (top 58)) (L2.defBody (top 58)) b__law_right :=
  (SSs.cons (SS.asg (o_repr (by decide +kernel) (SEF.val (SEF.lst (SA.cons (SE.var (by decide +kernel)) (SA.cons (SE.var (by decide +kernel)) SA.nil))) lo_lst)) (SG.tn (by decide +kernel)))
  (SSs.cons (SS.for (SI.walk (SE.call (j := 0) (by decide +kernel) (by decide +kernel) rfl (SA.cons (SE.var (by decide +kernel)) SA.nil))) (SG.tn (by decide +kernel)) (SSs.cons (SS.asg (SEF.val (SEF.lst (SA.cons (SE.call (j := 0) (by decide +kernel) (by decide +kernel) rfl (SA.cons (SE.var (by decide +kernel)) (SA.cons (SE.var (by decide +kernel)) (SA.cons (SE.var (by decide +kernel)) SA.nil)))) (SA.cons (SE.call (j := 0) (by decide +kernel) (by decide +kernel) rfl (SA.cons (SE.var (by decide +kernel)) (SA.cons (SE.var (by decide +kernel)) (SA.cons (SE.var (by decide +kernel)) SA.nil)))) (SA.cons (SE.call (j := 0) (by decide +kernel) (by decide +kernel) rfl (SA.cons (SE.var (by decide +kernel)) (SA.cons (SE.var (by decide +kernel)) (SA.cons (SE.var (by decide +kernel)) SA.nil)))) SA.nil)))) lo_lst) (SG.tn (by decide +kernel)))
  (SSs.one (SS.for (SI.range1 (by decide +kernel) SE.int) (SG.tn (by decide +kernel)) (SSs.one (SS.if (ST.not (ST.val (SE.call (j := 0) (by decide +kernel) (by decide +kernel) rfl (SA.cons (SEF.val (SEF.lst (SA.cons (SE.call (j := 0) (by decide +kernel) (by decide +kernel) rfl (SA.cons (SE.var (by decide +kernel)) (SA.cons (SE.var (by decide +kernel)) (SA.cons (SE.var (by decide +kernel)) SA.nil)))) (SA.cons (SE.call (j := 0) (by decide +kernel) (by decide +kernel) rfl (SA.cons (SE.var (by decide +kernel)) (SA.cons (SE.var (by decide +kernel)) (SA.cons (SE.var (by decide +kernel)) SA.nil)))) (SA.cons (SE.call (j := 0) (by decide +kernel) (by decide +kernel) rfl (SA.cons (SE.var (by decide +kernel)) (SA.cons (SE.var (by decide +kernel)) (SA.cons (SE.var (by decide +kernel)) SA.nil)))) SA.nil)))) lo_lst) (SA.cons (SE.var (by decide +kernel)) SA.nil))))) (SSs.one (SS.ret SE.bl)) SSs.nil))))))
  (SSs.one (SS.ret (SE.cmp o_eq (o_repr (by decide +kernel) (SEF.val (SEF.lst (SA.cons (SE.var (by decide +kernel)) (SA.cons (SE.var (by decide +kernel)) SA.nil))) lo_lst)) (SE.var (by decide +kernel)) rfl)))))
abbrev n__law_slacks_right : List PySem.Str := [("_law_slack" : PySem.Str), ("_law_weight" : PySem.Str), ("_law_end" : PySem.Str), ("_law_low" : PySem.Str), ("_law_arm_here" : PySem.Str)]
theorem s__law_slacks_right : SSs Γ n__law_slacks_right (L2.defScope (top 59)) (L2.defBody (top 59)) b__law_slacks_right :=
  (SSs.cons (SS.for (SI.range1 (by decide +kernel) SE.int) (SG.tn (by decide +kernel)) (SSs.one (SS.for (SI.range2 (by decide +kernel) SE.int SE.int) (SG.tn (by decide +kernel)) (SSs.one (SS.for (SI.walk (SEF.val (SEF.lst (SA.cons (SE.tup (SA.cons (SE.un o_neg SE.int) (SA.cons (SE.str rfl) SA.nil))) (SA.cons (SE.tup (SA.cons SE.int (SA.cons (SE.str rfl) SA.nil))) SA.nil))) lo_lst)) (SG.tt (SGs.cons (SG.tn (by decide +kernel)) (SGs.cons (SG.tn (by decide +kernel)) SGs.nil)) rfl) (SSs.cons (SS.asg (SE.tup (SA.cons SE.int (SA.cons SE.int (SA.cons (SE.var (by decide +kernel)) (SA.cons SE.int (SA.cons (SE.tup (SA.cons (SE.tup (SA.cons (SE.var (by decide +kernel)) (SA.cons (SE.var (by decide +kernel)) SA.nil))) SA.nil)) SA.nil)))))) (SG.tn (by decide +kernel)))
  (SSs.cons (SS.if (ST.not (ST.val (SE.call (j := 0) (by decide +kernel) (by decide +kernel) rfl (SA.cons (SEF.val (SEF.lst (SA.cons (SE.call (j := 0) (by decide +kernel) (by decide +kernel) rfl (SA.cons (SE.var (by decide +kernel)) (SA.cons (SE.tup (SA.cons (SE.tup SA.nil) SA.nil)) (SA.cons (SE.tup SA.nil) SA.nil)))) (SA.cons (SE.call (j := 0) (by decide +kernel) (by decide +kernel) rfl (SA.cons (SE.var (by decide +kernel)) (SA.cons (SE.tup (SA.cons (SE.tup SA.nil) SA.nil)) (SA.cons (SE.tup SA.nil) SA.nil)))) SA.nil))) lo_lst) (SA.cons (SEF.val (SEF.lst (SA.cons (SE.bin o_mulx (SE.var (by decide +kernel)) (SE.var (by decide +kernel))) (SA.cons (SE.var (by decide +kernel)) SA.nil))) lo_lst) SA.nil))))) (SSs.one (SS.ret SE.bl)) SSs.nil)
  (SSs.one (SS.if (ST.cmp o_ne (SE.call (j := 0) (by decide +kernel) (by decide +kernel) rfl (SA.cons (SE.var (by decide +kernel)) (SA.cons (SE.tup (SA.cons (SE.tup SA.nil) SA.nil)) (SA.cons (SE.tup SA.nil) SA.nil)))) (SE.ite (ST.cmp o_le (SE.var (by decide +kernel)) (SE.var (by decide +kernel)) rfl) (SE.str rfl) (SE.var (by decide +kernel))) rfl) (SSs.one (SS.ret SE.bl)) SSs.nil)))))))))
  (SSs.one (SS.ret SE.bl)))
abbrev n_law : List PySem.Str := [("_law_script" : PySem.Str), ("_law_k" : PySem.Str), ("_law_pen_here" : PySem.Str), ("_law_lap" : PySem.Str), ("_law_arm_here" : PySem.Str), ("_law_standing_here" : PySem.Str)]
theorem s_law : SSs Γ n_law (L2.defScope (top 60)) (L2.defBody (top 60)) b_law :=
  (SSs.cons (SS.if (ST.not (ST.val (SE.call0 (j := 0) (by decide +kernel) (by decide +kernel) rfl))) (SSs.one (SS.ret SE.bl)) SSs.nil)
  (SSs.cons (SS.for (SI.range1 (by decide +kernel) (o_max2 (by decide +kernel) SE.int (o_min2 (by decide +kernel) (o_len (by decide +kernel) (SE.var (by decide +kernel))) SE.int))) (SG.tn (by decide +kernel)) (SSs.cons (SS.asg (SE.call (j := 0) (by decide +kernel) (by decide +kernel) rfl (SA.cons (SE.call (j := 0) (by decide +kernel) (by decide +kernel) rfl (SA.cons (SE.var (by decide +kernel)) (SA.cons (SE.var (by decide +kernel)) SA.nil))) SA.nil)) (SG.tn (by decide +kernel)))
  (SSs.one (SS.for (SI.range1 (by decide +kernel) SE.int) (SG.tn (by decide +kernel)) (SSs.cons (SS.asg (SE.call (j := 0) (by decide +kernel) (by decide +kernel) rfl (SA.cons (SE.var (by decide +kernel)) (SA.cons SE.int (SA.cons SE.int (SA.cons SE.int SA.nil))))) (SG.tn (by decide +kernel)))
  (SSs.one (SS.for (SI.walk (SEF.val (SEF.lst (SA.cons (SE.call (j := 0) (by decide +kernel) (by decide +kernel) rfl (SA.cons (SE.var (by decide +kernel)) (SA.cons (SE.var (by decide +kernel)) (SA.cons SE.int SA.nil)))) (SA.cons (SE.call (j := 0) (by decide +kernel) (by decide +kernel) rfl (SA.cons (SE.var (by decide +kernel)) (SA.cons (SE.var (by decide +kernel)) (SA.cons SE.int SA.nil)))) (SA.cons (SE.bin o_mulx (SE.tup (SA.cons (SE.tup SA.nil) SA.nil)) (o_len (by decide +kernel) (SE.call (j := 0) (by decide +kernel) (by decide +kernel) rfl (SA.cons (SE.var (by decide +kernel)) SA.nil)))) SA.nil)))) lo_lst)) (SG.tn (by decide +kernel)) (SSs.one (SS.if (ST.not (ST.val (SE.call (j := 0) (by decide +kernel) (by decide +kernel) rfl (SA.cons (SE.var (by decide +kernel)) (SA.cons (SE.var (by decide +kernel)) SA.nil))))) (SSs.one (SS.ret SE.bl)) SSs.nil)))))))))
  (SSs.one (SS.ret SE.bl))))
end Dn

namespace Dn
def dd_is_whole : He.DefD := ⟨(("is_whole" : PySem.Str), none), ("is_whole" : PySem.Str), ("is_whole" : PySem.Str), L2.defArgs (top 13), L2.defBody (top 13), L2.defScope (top 13), [], []⟩
def dd_is_within : He.DefD := ⟨(("is_within" : PySem.Str), none), ("is_within" : PySem.Str), ("is_within" : PySem.Str), L2.defArgs (top 14), L2.defBody (top 14), L2.defScope (top 14), [], []⟩
def dd_is_long : He.DefD := ⟨(("is_long" : PySem.Str), none), ("is_long" : PySem.Str), ("is_long" : PySem.Str), L2.defArgs (top 15), L2.defBody (top 15), L2.defScope (top 15), [], []⟩
def dd_rises : He.DefD := ⟨(("rises" : PySem.Str), none), ("rises" : PySem.Str), ("rises" : PySem.Str), L2.defArgs (top 16), L2.defBody (top 16), L2.defScope (top 16), [], []⟩
def dd_falls_not : He.DefD := ⟨(("falls_not" : PySem.Str), none), ("falls_not" : PySem.Str), ("falls_not" : PySem.Str), L2.defArgs (top 17), L2.defBody (top 17), L2.defScope (top 17), [], []⟩
def dd_is_arm_by : He.DefD := ⟨(("is_arm_by" : PySem.Str), none), ("is_arm_by" : PySem.Str), ("is_arm_by" : PySem.Str), L2.defArgs (top 18), L2.defBody (top 18), L2.defScope (top 18), [], []⟩
def dd_is_weight : He.DefD := ⟨(("is_weight" : PySem.Str), none), ("is_weight" : PySem.Str), ("is_weight" : PySem.Str), L2.defArgs (top 19), L2.defBody (top 19), L2.defScope (top 19), [], []⟩
def dd_arms_in : He.DefD := ⟨(("arms_in" : PySem.Str), none), ("arms_in" : PySem.Str), ("arms_in" : PySem.Str), L2.defArgs (top 20), L2.defBody (top 20), L2.defScope (top 20), [], []⟩
def dd_is_arm : He.DefD := ⟨(("is_arm" : PySem.Str), none), ("is_arm" : PySem.Str), ("is_arm" : PySem.Str), L2.defArgs (top 21), L2.defBody (top 21), L2.defScope (top 21), [], []⟩
def dd_need_arm : He.DefD := ⟨(("need_arm" : PySem.Str), none), ("need_arm" : PySem.Str), ("need_arm" : PySem.Str), L2.defArgs (top 22), L2.defBody (top 22), L2.defScope (top 22), [], []⟩
def dd_paths_by : He.DefD := ⟨(("paths_by" : PySem.Str), none), ("paths_by" : PySem.Str), ("paths_by" : PySem.Str), L2.defArgs (top 23), L2.defBody (top 23), L2.defScope (top 23), [], []⟩
def dd_is_path : He.DefD := ⟨(("is_path" : PySem.Str), none), ("is_path" : PySem.Str), ("is_path" : PySem.Str), L2.defArgs (top 24), L2.defBody (top 24), L2.defScope (top 24), [], []⟩
def dd_need_path : He.DefD := ⟨(("need_path" : PySem.Str), none), ("need_path" : PySem.Str), ("need_path" : PySem.Str), L2.defArgs (top 25), L2.defBody (top 25), L2.defScope (top 25), [], []⟩
def dd_arm_by : He.DefD := ⟨(("arm_by" : PySem.Str), none), ("arm_by" : PySem.Str), ("arm_by" : PySem.Str), L2.defArgs (top 26), L2.defBody (top 26), L2.defScope (top 26), [], []⟩
def dd_is_bead : He.DefD := ⟨(("is_bead" : PySem.Str), none), ("is_bead" : PySem.Str), ("is_bead" : PySem.Str), L2.defArgs (top 32), L2.defBody (top 32), L2.defScope (top 32), [], []⟩
def dd_are_beads : He.DefD := ⟨(("are_beads" : PySem.Str), none), ("are_beads" : PySem.Str), ("are_beads" : PySem.Str), L2.defArgs (top 33), L2.defBody (top 33), L2.defScope (top 33), [], []⟩
def dd_is_standing_by : He.DefD := ⟨(("is_standing_by" : PySem.Str), none), ("is_standing_by" : PySem.Str), ("is_standing_by" : PySem.Str), L2.defArgs (top 34), L2.defBody (top 34), L2.defScope (top 34), [], []⟩
def dd_need_standing : He.DefD := ⟨(("need_standing" : PySem.Str), none), ("need_standing" : PySem.Str), ("need_standing" : PySem.Str), L2.defArgs (top 35), L2.defBody (top 35), L2.defScope (top 35), [], []⟩
def dd_Seenu__initu_ : He.DefD := ⟨(("Seen" : PySem.Str), some ("__init__" : PySem.Str)), ("__init__" : PySem.Str), ("Seen.__init__" : PySem.Str), L2.defArgs (mem 36 0), L2.defBody (mem 36 0), L2.defScope (mem 36 0), [], []⟩
def dd_Seen_look : He.DefD := ⟨(("Seen" : PySem.Str), some ("look" : PySem.Str)), ("look" : PySem.Str), ("Seen.look" : PySem.Str), L2.defArgs (mem 36 1), L2.defBody (mem 36 1), L2.defScope (mem 36 1), [], []⟩
def dd_word_by : He.DefD := ⟨(("word_by" : PySem.Str), none), ("word_by" : PySem.Str), ("word_by" : PySem.Str), L2.defArgs (top 37), L2.defBody (top 37), L2.defScope (top 37), [], []⟩
def dd_words_by : He.DefD := ⟨(("words_by" : PySem.Str), none), ("words_by" : PySem.Str), ("words_by" : PySem.Str), L2.defArgs (top 38), L2.defBody (top 38), L2.defScope (top 38), [], []⟩
def dd_need_place_of : He.DefD := ⟨(("need_place_of" : PySem.Str), none), ("need_place_of" : PySem.Str), ("need_place_of" : PySem.Str), L2.defArgs (top 39), L2.defBody (top 39), L2.defScope (top 39), [], []⟩
def dd_load : He.DefD := ⟨(("load" : PySem.Str), none), ("load" : PySem.Str), ("load" : PySem.Str), L2.defArgs (top 40), L2.defBody (top 40), L2.defScope (top 40), [], []⟩
def dd_tilt : He.DefD := ⟨(("tilt" : PySem.Str), none), ("tilt" : PySem.Str), ("tilt" : PySem.Str), L2.defArgs (top 41), L2.defBody (top 41), L2.defScope (top 41), [], []⟩
def dd_word : He.DefD := ⟨(("word" : PySem.Str), none), ("word" : PySem.Str), ("word" : PySem.Str), L2.defArgs (top 42), L2.defBody (top 42), L2.defScope (top 42), [], []⟩
def dd__law_cell_at : He.DefD := ⟨(("_law_cell_at" : PySem.Str), none), ("_law_cell_at" : PySem.Str), ("_law_cell_at" : PySem.Str), L2.defArgs (top 44), L2.defBody (top 44), L2.defScope (top 44), [], []⟩
def dd__law_pen : He.DefD := ⟨(("_law_pen" : PySem.Str), none), ("_law_pen" : PySem.Str), ("_law_pen" : PySem.Str), L2.defArgs (top 45), L2.defBody (top 45), L2.defScope (top 45), [], []⟩
def dd__law_draw : He.DefD := ⟨(("_law_draw" : PySem.Str), none), ("_law_draw" : PySem.Str), ("_law_draw" : PySem.Str), L2.defArgs (top 46), L2.defBody (top 46), L2.defScope (top 46), [], []⟩
def dd__law_same : He.DefD := ⟨(("_law_same" : PySem.Str), none), ("_law_same" : PySem.Str), ("_law_same" : PySem.Str), L2.defArgs (top 47), L2.defBody (top 47), L2.defScope (top 47), [], []⟩
def dd__law_lone : He.DefD := ⟨(("_law_lone" : PySem.Str), none), ("_law_lone" : PySem.Str), ("_law_lone" : PySem.Str), L2.defArgs (top 48), L2.defBody (top 48), L2.defScope (top 48), [], []⟩
def dd__law_hung : He.DefD := ⟨(("_law_hung" : PySem.Str), none), ("_law_hung" : PySem.Str), ("_law_hung" : PySem.Str), L2.defArgs (top 49), L2.defBody (top 49), L2.defScope (top 49), [], []⟩
def dd__law_arm : He.DefD := ⟨(("_law_arm" : PySem.Str), none), ("_law_arm" : PySem.Str), ("_law_arm" : PySem.Str), L2.defArgs (top 50), L2.defBody (top 50), L2.defScope (top 50), [], []⟩
def dd__law_paths : He.DefD := ⟨(("_law_paths" : PySem.Str), none), ("_law_paths" : PySem.Str), ("_law_paths" : PySem.Str), L2.defArgs (top 51), L2.defBody (top 51), L2.defScope (top 51), [], []⟩
def dd__law_at : He.DefD := ⟨(("_law_at" : PySem.Str), none), ("_law_at" : PySem.Str), ("_law_at" : PySem.Str), L2.defArgs (top 52), L2.defBody (top 52), L2.defScope (top 52), [], []⟩
def dd__law_beads : He.DefD := ⟨(("_law_beads" : PySem.Str), none), ("_law_beads" : PySem.Str), ("_law_beads" : PySem.Str), L2.defArgs (top 53), L2.defBody (top 53), L2.defScope (top 53), [], []⟩
def dd__law_standing : He.DefD := ⟨(("_law_standing" : PySem.Str), none), ("_law_standing" : PySem.Str), ("_law_standing" : PySem.Str), L2.defArgs (top 54), L2.defBody (top 54), L2.defScope (top 54), [], []⟩
def dd__law_load : He.DefD := ⟨(("_law_load" : PySem.Str), none), ("_law_load" : PySem.Str), ("_law_load" : PySem.Str), L2.defArgs (top 55), L2.defBody (top 55), L2.defScope (top 55), [], []⟩
def dd__law_tilt : He.DefD := ⟨(("_law_tilt" : PySem.Str), none), ("_law_tilt" : PySem.Str), ("_law_tilt" : PySem.Str), L2.defArgs (top 56), L2.defBody (top 56), L2.defScope (top 56), [], []⟩
def dd__law_word : He.DefD := ⟨(("_law_word" : PySem.Str), none), ("_law_word" : PySem.Str), ("_law_word" : PySem.Str), L2.defArgs (top 57), L2.defBody (top 57), L2.defScope (top 57), [], []⟩
def dd__law_right : He.DefD := ⟨(("_law_right" : PySem.Str), none), ("_law_right" : PySem.Str), ("_law_right" : PySem.Str), L2.defArgs (top 58), L2.defBody (top 58), L2.defScope (top 58), [], []⟩
def dd__law_slacks_right : He.DefD := ⟨(("_law_slacks_right" : PySem.Str), none), ("_law_slacks_right" : PySem.Str), ("_law_slacks_right" : PySem.Str), L2.defArgs (top 59), L2.defBody (top 59), L2.defScope (top 59), [], []⟩
def dd_law : He.DefD := ⟨(("law" : PySem.Str), none), ("law" : PySem.Str), ("law" : PySem.Str), L2.defArgs (top 60), L2.defBody (top 60), L2.defScope (top 60), [], []⟩
def fn : List He.DefD := [dd_is_whole, dd_is_within, dd_is_long, dd_rises, dd_falls_not, dd_is_arm_by, dd_is_weight, dd_arms_in, dd_is_arm, dd_need_arm, dd_paths_by, dd_is_path, dd_need_path, dd_arm_by, dd_is_bead, dd_are_beads, dd_is_standing_by, dd_need_standing, dd_Seenu__initu_, dd_Seen_look, dd_word_by, dd_words_by, dd_need_place_of, dd_load, dd_tilt, dd_word, dd__law_cell_at, dd__law_pen, dd__law_draw, dd__law_same, dd__law_lone, dd__law_hung, dd__law_arm, dd__law_paths, dd__law_at, dd__law_beads, dd__law_standing, dd__law_load, dd__law_tilt, dd__law_word, dd__law_right, dd__law_slacks_right, dd_law]
def fas : List He.Fa := [.glo ("is_whole" : PySem.Str), .glo ("is_within" : PySem.Str), .glo ("is_long" : PySem.Str), .glo ("rises" : PySem.Str), .glo ("falls_not" : PySem.Str), .glo ("is_arm_by" : PySem.Str), .glo ("is_weight" : PySem.Str), .glo ("arms_in" : PySem.Str), .glo ("is_arm" : PySem.Str), .glo ("need_arm" : PySem.Str), .glo ("paths_by" : PySem.Str), .glo ("is_path" : PySem.Str), .glo ("need_path" : PySem.Str), .glo ("arm_by" : PySem.Str), .glo ("is_bead" : PySem.Str), .glo ("are_beads" : PySem.Str), .glo ("is_standing_by" : PySem.Str), .glo ("need_standing" : PySem.Str), .glo ("word_by" : PySem.Str), .glo ("words_by" : PySem.Str), .glo ("need_place_of" : PySem.Str), .glo ("load" : PySem.Str), .glo ("tilt" : PySem.Str), .glo ("word" : PySem.Str), .glo ("_law_cell_at" : PySem.Str), .glo ("_law_pen" : PySem.Str), .glo ("_law_draw" : PySem.Str), .glo ("_law_same" : PySem.Str), .glo ("_law_lone" : PySem.Str), .glo ("_law_hung" : PySem.Str), .glo ("_law_arm" : PySem.Str), .glo ("_law_paths" : PySem.Str), .glo ("_law_at" : PySem.Str), .glo ("_law_beads" : PySem.Str), .glo ("_law_standing" : PySem.Str), .glo ("_law_load" : PySem.Str), .glo ("_law_tilt" : PySem.Str), .glo ("_law_word" : PySem.Str), .glo ("_law_right" : PySem.Str), .glo ("_law_slacks_right" : PySem.Str), .glo ("law" : PySem.Str), .free ("abs" : PySem.Str), .free ("all" : PySem.Str), .free ("bool" : PySem.Str), .free ("dict" : PySem.Str), .free ("int" : PySem.Str), .free ("isinstance" : PySem.Str), .free ("len" : PySem.Str), .free ("list" : PySem.Str), .free ("max" : PySem.Str), .free ("min" : PySem.Str), .free ("range" : PySem.Str), .free ("repr" : PySem.Str), .free ("sorted" : PySem.Str), .free ("sum" : PySem.Str), .free ("tuple" : PySem.Str), .free ("zip" : PySem.Str), .int ("MOST_SIDE" : PySem.Str) 3, .int ("MOST_SLACK" : PySem.Str) 9, .int ("MOST_HOLDS" : PySem.Str) 3, .int ("MOST_WEIGHT" : PySem.Str) 9, .int ("MOST_ARMS" : PySem.Str) 4, .int ("MOST_DEEP" : PySem.Str) 3, .int ("LONG_ARM" : PySem.Str) 5, .int ("MOST_BEAD" : PySem.Str) 3, .str ("LEVEL" : PySem.Str) ("level" : PySem.Str), .str ("LEFT" : PySem.Str) ("left" : PySem.Str), .str ("RIGHT" : PySem.Str) ("right" : PySem.Str), .glo ("Seen" : PySem.Str), .cls ("Seen" : PySem.Str), .mkr ("Seen" : PySem.Str), .noat ("Seen" : PySem.Str) ("beads" : PySem.Str), .noat ("Seen" : PySem.Str) ("loads" : PySem.Str), .noat ("Seen" : PySem.Str) ("tilts" : PySem.Str), .meth ("Seen" : PySem.Str) ("look" : PySem.Str)]
def loose : List PySem.Str := ([("__name__" : PySem.Str), ("TiltError" : PySem.Str), ("NoArm" : PySem.Str), ("NoPath" : PySem.Str), ("NoStanding" : PySem.Str), ("MOST_SIDE" : PySem.Str), ("MOST_SLACK" : PySem.Str), ("MOST_HOLDS" : PySem.Str), ("MOST_WEIGHT" : PySem.Str), ("MOST_ARMS" : PySem.Str), ("MOST_DEEP" : PySem.Str), ("LONG_ARM" : PySem.Str), ("is_whole" : PySem.Str), ("is_within" : PySem.Str), ("is_long" : PySem.Str), ("rises" : PySem.Str), ("falls_not" : PySem.Str), ("is_arm_by" : PySem.Str), ("is_weight" : PySem.Str), ("arms_in" : PySem.Str), ("is_arm" : PySem.Str), ("need_arm" : PySem.Str), ("paths_by" : PySem.Str), ("is_path" : PySem.Str), ("need_path" : PySem.Str), ("arm_by" : PySem.Str), ("MOST_BEAD" : PySem.Str), ("LEVEL" : PySem.Str), ("LEFT" : PySem.Str), ("RIGHT" : PySem.Str), ("is_bead" : PySem.Str), ("are_beads" : PySem.Str), ("is_standing_by" : PySem.Str), ("need_standing" : PySem.Str), ("Seen" : PySem.Str)] : List PySem.Str) ++ ([("word_by" : PySem.Str), ("words_by" : PySem.Str), ("need_place_of" : PySem.Str), ("load" : PySem.Str), ("tilt" : PySem.Str), ("word" : PySem.Str), ("_law_cell_at" : PySem.Str), ("_law_pen" : PySem.Str), ("_law_draw" : PySem.Str), ("_law_same" : PySem.Str), ("_law_lone" : PySem.Str), ("_law_hung" : PySem.Str), ("_law_arm" : PySem.Str), ("_law_paths" : PySem.Str), ("_law_at" : PySem.Str), ("_law_beads" : PySem.Str), ("_law_standing" : PySem.Str), ("_law_load" : PySem.Str), ("_law_tilt" : PySem.Str), ("_law_word" : PySem.Str), ("_law_right" : PySem.Str), ("_law_slacks_right" : PySem.Str)] : List PySem.Str)
abbrev Rw : PySem.W.OpenRow := PySem.W.OpenLaw.row PySem.Challenge.rw_tiltbeads_k04_loads_tilts_words
/-- the defaults stand: empty tuples -/
def exB (K : PySem.W.Frag) : Bool := true
abbrev AlX : Type := He.AlD × Bool
def hkX : PySem.W.Hook where
  α := AlX
  obs := fun s => (He.obsDG 4 fas fn s.heap.get?, exB (He.frG s.heap.get? (He.asD s.heap.get? 4)))
  val := fun _ => (He.valD fn, true)
  says := fun _ h => ∃ K : PySem.W.Frag, K.In h ∧ He.SaysD fas fn K ∧ exB K = true
  of := fun _ _ e => ⟨_, He.frG_in, congrArg (fun z : AlX => z.1) e, congrArg (fun z : AlX => z.2) e⟩
  keeps := fun _ _ _ ⟨K, hK, c⟩ k => ⟨K, PySem.W.Frag.In.keeps hK k, c⟩
def obX (s : PySem.W.SharedT) : AlX := (He.obsDG 4 fas fn (HandSHeadRun.getT s), exB (He.frG (HandSHeadRun.getT s) (He.asD (HandSHeadRun.getT s) 4)))
theorem obX_eq (s : PySem.W.SharedT) : obX s = hkX.obs s.abs := by
  have e : HandSHeadRun.getT s = s.abs.heap.get? := funext (HandSHeadRun.getT_eq s)
  unfold obX
  rw [e]
  rfl
end Dn

namespace Dn
open L2
def faOf (K : PySem.W.Frag) (i : Nat) : PySem.Addr := match fn[i]? with
  | some d => He.fAd K d.at_
  | none => 0
def clOf (K : PySem.W.Frag) (i : Nat) : PySem.Addr := match cnm i with
  | some x => He.ga K x
  | none => 0
section
variable {K : PySem.W.Frag}
theorem sc_is_whole : L2.FnScope n_is_whole [("thing" : PySem.Str)] (L2.defScope (top 13)) := ⟨rfl, rfl, rfl, by decide +kernel, rfl, by decide +kernel, by decide +kernel⟩
theorem ok_is_whole (c : He.SaysD fas fn K) : DefOk Γ K (faOf K) 0 ⟨1, 1, true, b_is_whole⟩ := by
  obtain ⟨fd, F⟩ := c.def_ 0 (d := dd_is_whole) rfl
  refine ⟨⟨_, _, _, _, _, _, _, fd, n_is_whole, [("thing" : PySem.Str)], F, sc_is_whole, rfl, rfl, s_is_whole, fun j hj => ⟨[], [], L2.FunD.bindsN F fun _ _ _ _ _ _ us hl => match us, hl with | [_], _ => rfl, .nil, fun κ G ρ H _ => ?_⟩⟩⟩
  show RVs κ G ρ H (([] : List PV).drop j) []
  simp [RVs]
theorem sc_is_within : L2.FnScope n_is_within [("thing" : PySem.Str), ("least" : PySem.Str), ("most" : PySem.Str)] (L2.defScope (top 14)) := ⟨rfl, rfl, rfl, by decide +kernel, rfl, by decide +kernel, by decide +kernel⟩
theorem ok_is_within (c : He.SaysD fas fn K) : DefOk Γ K (faOf K) 1 ⟨3, 3, true, b_is_within⟩ := by
  obtain ⟨fd, F⟩ := c.def_ 1 (d := dd_is_within) rfl
  refine ⟨⟨_, _, _, _, _, _, _, fd, n_is_within, [("thing" : PySem.Str), ("least" : PySem.Str), ("most" : PySem.Str)], F, sc_is_within, rfl, rfl, s_is_within, fun j hj => ⟨[], [], L2.FunD.bindsN F fun _ _ _ _ _ _ us hl => match us, hl with | [_, _, _], _ => rfl, .nil, fun κ G ρ H _ => ?_⟩⟩⟩
  show RVs κ G ρ H (([] : List PV).drop j) []
  simp [RVs]
theorem sc_is_long : L2.FnScope n_is_long [("thing" : PySem.Str), ("least" : PySem.Str), ("most" : PySem.Str)] (L2.defScope (top 15)) := ⟨rfl, rfl, rfl, by decide +kernel, rfl, by decide +kernel, by decide +kernel⟩
theorem ok_is_long (c : He.SaysD fas fn K) : DefOk Γ K (faOf K) 2 ⟨3, 3, true, b_is_long⟩ := by
  obtain ⟨fd, F⟩ := c.def_ 2 (d := dd_is_long) rfl
  refine ⟨⟨_, _, _, _, _, _, _, fd, n_is_long, [("thing" : PySem.Str), ("least" : PySem.Str), ("most" : PySem.Str)], F, sc_is_long, rfl, rfl, s_is_long, fun j hj => ⟨[], [], L2.FunD.bindsN F fun _ _ _ _ _ _ us hl => match us, hl with | [_, _, _], _ => rfl, .nil, fun κ G ρ H _ => ?_⟩⟩⟩
  show RVs κ G ρ H (([] : List PV).drop j) []
  simp [RVs]
theorem sc_rises : L2.FnScope n_rises [("row" : PySem.Str)] (L2.defScope (top 16)) := ⟨rfl, rfl, rfl, by decide +kernel, rfl, by decide +kernel, by decide +kernel⟩
theorem ok_rises (c : He.SaysD fas fn K) : DefOk Γ K (faOf K) 3 ⟨1, 3, true, b_rises⟩ := by
  obtain ⟨fd, F⟩ := c.def_ 3 (d := dd_rises) rfl
  refine ⟨⟨_, _, _, _, _, _, _, fd, n_rises, [("row" : PySem.Str)], F, sc_rises, rfl, rfl, s_rises, fun j hj => ⟨[], [], L2.FunD.bindsN F fun _ _ _ _ _ _ us hl => match us, hl with | [_], _ => rfl, .nil, fun κ G ρ H _ => ?_⟩⟩⟩
  show RVs κ G ρ H (([] : List PV).drop j) []
  simp [RVs]
theorem sc_falls_not : L2.FnScope n_falls_not [("row" : PySem.Str)] (L2.defScope (top 17)) := ⟨rfl, rfl, rfl, by decide +kernel, rfl, by decide +kernel, by decide +kernel⟩
theorem ok_falls_not (c : He.SaysD fas fn K) : DefOk Γ K (faOf K) 4 ⟨1, 3, true, b_falls_not⟩ := by
  obtain ⟨fd, F⟩ := c.def_ 4 (d := dd_falls_not) rfl
  refine ⟨⟨_, _, _, _, _, _, _, fd, n_falls_not, [("row" : PySem.Str)], F, sc_falls_not, rfl, rfl, s_falls_not, fun j hj => ⟨[], [], L2.FunD.bindsN F fun _ _ _ _ _ _ us hl => match us, hl with | [_], _ => rfl, .nil, fun κ G ρ H _ => ?_⟩⟩⟩
  show RVs κ G ρ H (([] : List PV).drop j) []
  simp [RVs]
theorem sc_is_arm_by : L2.FnScope n_is_arm_by [("thing" : PySem.Str), ("deep" : PySem.Str)] (L2.defScope (top 18)) := ⟨rfl, rfl, rfl, by decide +kernel, rfl, by decide +kernel, by decide +kernel⟩
theorem ok_is_arm_by (c : He.SaysD fas fn K) : DefOk Γ K (faOf K) 5 ⟨2, 10, true, b_is_arm_by⟩ := by
  obtain ⟨fd, F⟩ := c.def_ 5 (d := dd_is_arm_by) rfl
  refine ⟨⟨_, _, _, _, _, _, _, fd, n_is_arm_by, [("thing" : PySem.Str), ("deep" : PySem.Str)], F, sc_is_arm_by, rfl, rfl, s_is_arm_by, fun j hj => ⟨[], [], L2.FunD.bindsN F fun _ _ _ _ _ _ us hl => match us, hl with | [_, _], _ => rfl, .nil, fun κ G ρ H _ => ?_⟩⟩⟩
  show RVs κ G ρ H (([] : List PV).drop j) []
  simp [RVs]
theorem sc_is_weight : L2.FnScope n_is_weight [("thing" : PySem.Str)] (L2.defScope (top 19)) := ⟨rfl, rfl, rfl, by decide +kernel, rfl, by decide +kernel, by decide +kernel⟩
theorem ok_is_weight (c : He.SaysD fas fn K) : DefOk Γ K (faOf K) 6 ⟨1, 1, true, b_is_weight⟩ := by
  obtain ⟨fd, F⟩ := c.def_ 6 (d := dd_is_weight) rfl
  refine ⟨⟨_, _, _, _, _, _, _, fd, n_is_weight, [("thing" : PySem.Str)], F, sc_is_weight, rfl, rfl, s_is_weight, fun j hj => ⟨[], [], L2.FunD.bindsN F fun _ _ _ _ _ _ us hl => match us, hl with | [_], _ => rfl, .nil, fun κ G ρ H _ => ?_⟩⟩⟩
  show RVs κ G ρ H (([] : List PV).drop j) []
  simp [RVs]
theorem sc_arms_in : L2.FnScope n_arms_in [("arm" : PySem.Str)] (L2.defScope (top 20)) := ⟨rfl, rfl, rfl, by decide +kernel, rfl, by decide +kernel, by decide +kernel⟩
theorem ok_arms_in (c : He.SaysD fas fn K) : DefOk Γ K (faOf K) 7 ⟨1, 3, true, b_arms_in⟩ := by
  obtain ⟨fd, F⟩ := c.def_ 7 (d := dd_arms_in) rfl
  refine ⟨⟨_, _, _, _, _, _, _, fd, n_arms_in, [("arm" : PySem.Str)], F, sc_arms_in, rfl, rfl, s_arms_in, fun j hj => ⟨[], [], L2.FunD.bindsN F fun _ _ _ _ _ _ us hl => match us, hl with | [_], _ => rfl, .nil, fun κ G ρ H _ => ?_⟩⟩⟩
  show RVs κ G ρ H (([] : List PV).drop j) []
  simp [RVs]
theorem sc_is_arm : L2.FnScope n_is_arm [("thing" : PySem.Str)] (L2.defScope (top 21)) := ⟨rfl, rfl, rfl, by decide +kernel, rfl, by decide +kernel, by decide +kernel⟩
theorem ok_is_arm (c : He.SaysD fas fn K) : DefOk Γ K (faOf K) 8 ⟨1, 1, true, b_is_arm⟩ := by
  obtain ⟨fd, F⟩ := c.def_ 8 (d := dd_is_arm) rfl
  refine ⟨⟨_, _, _, _, _, _, _, fd, n_is_arm, [("thing" : PySem.Str)], F, sc_is_arm, rfl, rfl, s_is_arm, fun j hj => ⟨[], [], L2.FunD.bindsN F fun _ _ _ _ _ _ us hl => match us, hl with | [_], _ => rfl, .nil, fun κ G ρ H _ => ?_⟩⟩⟩
  show RVs κ G ρ H (([] : List PV).drop j) []
  simp [RVs]
theorem sc_need_arm : L2.FnScope n_need_arm [("thing" : PySem.Str)] (L2.defScope (top 22)) := ⟨rfl, rfl, rfl, by decide +kernel, rfl, by decide +kernel, by decide +kernel⟩
theorem ok_need_arm (c : He.SaysD fas fn K) : DefOk Γ K (faOf K) 9 ⟨1, 1, true, b_need_arm⟩ := by
  obtain ⟨fd, F⟩ := c.def_ 9 (d := dd_need_arm) rfl
  refine ⟨⟨_, _, _, _, _, _, _, fd, n_need_arm, [("thing" : PySem.Str)], F, sc_need_arm, rfl, rfl, s_need_arm, fun j hj => ⟨[], [], L2.FunD.bindsN F fun _ _ _ _ _ _ us hl => match us, hl with | [_], _ => rfl, .nil, fun κ G ρ H _ => ?_⟩⟩⟩
  show RVs κ G ρ H (([] : List PV).drop j) []
  simp [RVs]
theorem sc_paths_by : L2.FnScope n_paths_by [("arm" : PySem.Str)] (L2.defScope (top 23)) := ⟨rfl, rfl, rfl, by decide +kernel, rfl, by decide +kernel, by decide +kernel⟩
theorem ok_paths_by (c : He.SaysD fas fn K) : DefOk Γ K (faOf K) 10 ⟨1, 5, true, b_paths_by⟩ := by
  obtain ⟨fd, F⟩ := c.def_ 10 (d := dd_paths_by) rfl
  refine ⟨⟨_, _, _, _, _, _, _, fd, n_paths_by, [("arm" : PySem.Str)], F, sc_paths_by, rfl, rfl, s_paths_by, fun j hj => ⟨[], [], L2.FunD.bindsN F fun _ _ _ _ _ _ us hl => match us, hl with | [_], _ => rfl, .nil, fun κ G ρ H _ => ?_⟩⟩⟩
  show RVs κ G ρ H (([] : List PV).drop j) []
  simp [RVs]
theorem sc_is_path : L2.FnScope n_is_path [("arm" : PySem.Str), ("thing" : PySem.Str)] (L2.defScope (top 24)) := ⟨rfl, rfl, rfl, by decide +kernel, rfl, by decide +kernel, by decide +kernel⟩
theorem ok_is_path (c : He.SaysD fas fn K) : DefOk Γ K (faOf K) 11 ⟨2, 3, true, b_is_path⟩ := by
  obtain ⟨fd, F⟩ := c.def_ 11 (d := dd_is_path) rfl
  refine ⟨⟨_, _, _, _, _, _, _, fd, n_is_path, [("arm" : PySem.Str), ("thing" : PySem.Str)], F, sc_is_path, rfl, rfl, s_is_path, fun j hj => ⟨[], [], L2.FunD.bindsN F fun _ _ _ _ _ _ us hl => match us, hl with | [_, _], _ => rfl, .nil, fun κ G ρ H _ => ?_⟩⟩⟩
  show RVs κ G ρ H (([] : List PV).drop j) []
  simp [RVs]
theorem sc_need_path : L2.FnScope n_need_path [("arm" : PySem.Str), ("thing" : PySem.Str)] (L2.defScope (top 25)) := ⟨rfl, rfl, rfl, by decide +kernel, rfl, by decide +kernel, by decide +kernel⟩
theorem ok_need_path (c : He.SaysD fas fn K) : DefOk Γ K (faOf K) 12 ⟨2, 2, true, b_need_path⟩ := by
  obtain ⟨fd, F⟩ := c.def_ 12 (d := dd_need_path) rfl
  refine ⟨⟨_, _, _, _, _, _, _, fd, n_need_path, [("arm" : PySem.Str), ("thing" : PySem.Str)], F, sc_need_path, rfl, rfl, s_need_path, fun j hj => ⟨[], [], L2.FunD.bindsN F fun _ _ _ _ _ _ us hl => match us, hl with | [_, _], _ => rfl, .nil, fun κ G ρ H _ => ?_⟩⟩⟩
  show RVs κ G ρ H (([] : List PV).drop j) []
  simp [RVs]
theorem sc_arm_by : L2.FnScope n_arm_by [("arm" : PySem.Str), ("path" : PySem.Str)] (L2.defScope (top 26)) := ⟨rfl, rfl, rfl, by decide +kernel, rfl, by decide +kernel, by decide +kernel⟩
theorem ok_arm_by (c : He.SaysD fas fn K) : DefOk Γ K (faOf K) 13 ⟨2, 4, true, b_arm_by⟩ := by
  obtain ⟨fd, F⟩ := c.def_ 13 (d := dd_arm_by) rfl
  refine ⟨⟨_, _, _, _, _, _, _, fd, n_arm_by, [("arm" : PySem.Str), ("path" : PySem.Str)], F, sc_arm_by, rfl, rfl, s_arm_by, fun j hj => ⟨[], [], L2.FunD.bindsN F fun _ _ _ _ _ _ us hl => match us, hl with | [_, _], _ => rfl, .nil, fun κ G ρ H _ => ?_⟩⟩⟩
  show RVs κ G ρ H (([] : List PV).drop j) []
  simp [RVs]
theorem sc_is_bead : L2.FnScope n_is_bead [("arm" : PySem.Str), ("thing" : PySem.Str)] (L2.defScope (top 32)) := ⟨rfl, rfl, rfl, by decide +kernel, rfl, by decide +kernel, by decide +kernel⟩
theorem ok_is_bead (c : He.SaysD fas fn K) : DefOk Γ K (faOf K) 14 ⟨2, 2, true, b_is_bead⟩ := by
  obtain ⟨fd, F⟩ := c.def_ 14 (d := dd_is_bead) rfl
  refine ⟨⟨_, _, _, _, _, _, _, fd, n_is_bead, [("arm" : PySem.Str), ("thing" : PySem.Str)], F, sc_is_bead, rfl, rfl, s_is_bead, fun j hj => ⟨[], [], L2.FunD.bindsN F fun _ _ _ _ _ _ us hl => match us, hl with | [_, _], _ => rfl, .nil, fun κ G ρ H _ => ?_⟩⟩⟩
  show RVs κ G ρ H (([] : List PV).drop j) []
  simp [RVs]
theorem sc_are_beads : L2.FnScope n_are_beads [("arm" : PySem.Str), ("thing" : PySem.Str)] (L2.defScope (top 33)) := ⟨rfl, rfl, rfl, by decide +kernel, rfl, by decide +kernel, by decide +kernel⟩
theorem ok_are_beads (c : He.SaysD fas fn K) : DefOk Γ K (faOf K) 15 ⟨2, 3, true, b_are_beads⟩ := by
  obtain ⟨fd, F⟩ := c.def_ 15 (d := dd_are_beads) rfl
  refine ⟨⟨_, _, _, _, _, _, _, fd, n_are_beads, [("arm" : PySem.Str), ("thing" : PySem.Str)], F, sc_are_beads, rfl, rfl, s_are_beads, fun j hj => ⟨[], [], L2.FunD.bindsN F fun _ _ _ _ _ _ us hl => match us, hl with | [_, _], _ => rfl, .nil, fun κ G ρ H _ => ?_⟩⟩⟩
  show RVs κ G ρ H (([] : List PV).drop j) []
  simp [RVs]
theorem sc_is_standing_by : L2.FnScope n_is_standing_by [("arm" : PySem.Str), ("thing" : PySem.Str)] (L2.defScope (top 34)) := ⟨rfl, rfl, rfl, by decide +kernel, rfl, by decide +kernel, by decide +kernel⟩
theorem ok_is_standing_by (c : He.SaysD fas fn K) : DefOk Γ K (faOf K) 16 ⟨2, 5, true, b_is_standing_by⟩ := by
  obtain ⟨fd, F⟩ := c.def_ 16 (d := dd_is_standing_by) rfl
  refine ⟨⟨_, _, _, _, _, _, _, fd, n_is_standing_by, [("arm" : PySem.Str), ("thing" : PySem.Str)], F, sc_is_standing_by, rfl, rfl, s_is_standing_by, fun j hj => ⟨[], [], L2.FunD.bindsN F fun _ _ _ _ _ _ us hl => match us, hl with | [_, _], _ => rfl, .nil, fun κ G ρ H _ => ?_⟩⟩⟩
  show RVs κ G ρ H (([] : List PV).drop j) []
  simp [RVs]
theorem sc_need_standing : L2.FnScope n_need_standing [("arm" : PySem.Str), ("thing" : PySem.Str)] (L2.defScope (top 35)) := ⟨rfl, rfl, rfl, by decide +kernel, rfl, by decide +kernel, by decide +kernel⟩
theorem ok_need_standing (c : He.SaysD fas fn K) : DefOk Γ K (faOf K) 17 ⟨2, 2, true, b_need_standing⟩ := by
  obtain ⟨fd, F⟩ := c.def_ 17 (d := dd_need_standing) rfl
  refine ⟨⟨_, _, _, _, _, _, _, fd, n_need_standing, [("arm" : PySem.Str), ("thing" : PySem.Str)], F, sc_need_standing, rfl, rfl, s_need_standing, fun j hj => ⟨[], [], L2.FunD.bindsN F fun _ _ _ _ _ _ us hl => match us, hl with | [_, _], _ => rfl, .nil, fun κ G ρ H _ => ?_⟩⟩⟩
  show RVs κ G ρ H (([] : List PV).drop j) []
  simp [RVs]
theorem sc_Seenu__initu_ : L2.FnScope n_Seenu__initu_ [("self" : PySem.Str), ("arm" : PySem.Str), ("standing" : PySem.Str)] (L2.defScope (mem 36 0)) := ⟨rfl, rfl, rfl, by decide +kernel, rfl, by decide +kernel, by decide +kernel⟩
theorem ok_Seenu__initu_ (c : He.SaysD fas fn K) : DefOk Γ K (faOf K) 18 ⟨3, 3, false, b_Seenu__initu_⟩ := by
  obtain ⟨fd, F⟩ := c.def_ 18 (d := dd_Seenu__initu_) rfl
  refine ⟨⟨_, _, _, _, _, _, _, fd, n_Seenu__initu_, [("self" : PySem.Str), ("arm" : PySem.Str), ("standing" : PySem.Str)], F, sc_Seenu__initu_, rfl, rfl, s_Seenu__initu_, fun j hj => ⟨[], [], L2.FunD.bindsN F fun _ _ _ _ _ _ us hl => match us, hl with | [_, _, _], _ => rfl, .nil, fun κ G ρ H _ => ?_⟩⟩⟩
  show RVs κ G ρ H (([] : List PV).drop j) []
  simp [RVs]
theorem sc_Seen_look : L2.FnScope n_Seen_look [("self" : PySem.Str), ("arm" : PySem.Str), ("path" : PySem.Str)] (L2.defScope (mem 36 1)) := ⟨rfl, rfl, rfl, by decide +kernel, rfl, by decide +kernel, by decide +kernel⟩
theorem ok_Seen_look (c : He.SaysD fas fn K) : DefOk Γ K (faOf K) 19 ⟨3, 7, false, b_Seen_look⟩ := by
  obtain ⟨fd, F⟩ := c.def_ 19 (d := dd_Seen_look) rfl
  refine ⟨⟨_, _, _, _, _, _, _, fd, n_Seen_look, [("self" : PySem.Str), ("arm" : PySem.Str), ("path" : PySem.Str)], F, sc_Seen_look, rfl, rfl, s_Seen_look, fun j hj => ⟨[], [], L2.FunD.bindsN F fun _ _ _ _ _ _ us hl => match us, hl with | [_, _, _], _ => rfl, .nil, fun κ G ρ H _ => ?_⟩⟩⟩
  show RVs κ G ρ H (([] : List PV).drop j) []
  simp [RVs]
theorem sc_word_by : L2.FnScope n_word_by [("arm" : PySem.Str), ("tilt_now" : PySem.Str)] (L2.defScope (top 37)) := ⟨rfl, rfl, rfl, by decide +kernel, rfl, by decide +kernel, by decide +kernel⟩
theorem ok_word_by (c : He.SaysD fas fn K) : DefOk Γ K (faOf K) 20 ⟨2, 2, true, b_word_by⟩ := by
  obtain ⟨fd, F⟩ := c.def_ 20 (d := dd_word_by) rfl
  refine ⟨⟨_, _, _, _, _, _, _, fd, n_word_by, [("arm" : PySem.Str), ("tilt_now" : PySem.Str)], F, sc_word_by, rfl, rfl, s_word_by, fun j hj => ⟨[], [], L2.FunD.bindsN F fun _ _ _ _ _ _ us hl => match us, hl with | [_, _], _ => rfl, .nil, fun κ G ρ H _ => ?_⟩⟩⟩
  show RVs κ G ρ H (([] : List PV).drop j) []
  simp [RVs]
theorem sc_words_by : L2.FnScope n_words_by [("arm" : PySem.Str), ("standing" : PySem.Str)] (L2.defScope (top 38)) := ⟨rfl, rfl, rfl, by decide +kernel, rfl, by decide +kernel, by decide +kernel⟩
theorem ok_words_by (c : He.SaysD fas fn K) : DefOk Γ K (faOf K) 21 ⟨2, 4, true, b_words_by⟩ := by
  obtain ⟨fd, F⟩ := c.def_ 21 (d := dd_words_by) rfl
  refine ⟨⟨_, _, _, _, _, _, _, fd, n_words_by, [("arm" : PySem.Str), ("standing" : PySem.Str)], F, sc_words_by, rfl, rfl, s_words_by, fun j hj => ⟨[], [], L2.FunD.bindsN F fun _ _ _ _ _ _ us hl => match us, hl with | [_, _], _ => rfl, .nil, fun κ G ρ H _ => ?_⟩⟩⟩
  show RVs κ G ρ H (([] : List PV).drop j) []
  simp [RVs]
theorem sc_need_place_of : L2.FnScope n_need_place_of [("arm" : PySem.Str), ("standing" : PySem.Str), ("path" : PySem.Str)] (L2.defScope (top 39)) := ⟨rfl, rfl, rfl, by decide +kernel, rfl, by decide +kernel, by decide +kernel⟩
theorem ok_need_place_of (c : He.SaysD fas fn K) : DefOk Γ K (faOf K) 22 ⟨3, 3, true, b_need_place_of⟩ := by
  obtain ⟨fd, F⟩ := c.def_ 22 (d := dd_need_place_of) rfl
  refine ⟨⟨_, _, _, _, _, _, _, fd, n_need_place_of, [("arm" : PySem.Str), ("standing" : PySem.Str), ("path" : PySem.Str)], F, sc_need_place_of, rfl, rfl, s_need_place_of, fun j hj => ⟨[], [], L2.FunD.bindsN F fun _ _ _ _ _ _ us hl => match us, hl with | [_, _, _], _ => rfl, .nil, fun κ G ρ H _ => ?_⟩⟩⟩
  show RVs κ G ρ H (([] : List PV).drop j) []
  simp [RVs]
theorem sc_load : L2.FnScope n_load [("arm" : PySem.Str), ("standing" : PySem.Str), ("path" : PySem.Str)] (L2.defScope (top 40)) := ⟨rfl, rfl, rfl, by decide +kernel, rfl, by decide +kernel, by decide +kernel⟩
theorem ok_load (c : He.SaysD fas fn K) : DefOk Γ K (faOf K) 23 ⟨3, 3, true, b_load⟩ := by
  obtain ⟨fd, F⟩ := c.def_ 23 (d := dd_load) rfl
  refine ⟨⟨_, _, _, _, _, _, _, fd, n_load, [("arm" : PySem.Str), ("standing" : PySem.Str), ("path" : PySem.Str)], F, sc_load, rfl, rfl, s_load, fun j hj => ⟨[], [], L2.FunD.bindsN F fun _ _ _ _ _ _ us hl => match us, hl with | [_, _, _], _ => rfl, .nil, fun κ G ρ H _ => ?_⟩⟩⟩
  show RVs κ G ρ H (([] : List PV).drop j) []
  simp [RVs]
theorem sc_tilt : L2.FnScope n_tilt [("arm" : PySem.Str), ("standing" : PySem.Str), ("path" : PySem.Str)] (L2.defScope (top 41)) := ⟨rfl, rfl, rfl, by decide +kernel, rfl, by decide +kernel, by decide +kernel⟩
theorem ok_tilt (c : He.SaysD fas fn K) : DefOk Γ K (faOf K) 24 ⟨3, 3, true, b_tilt⟩ := by
  obtain ⟨fd, F⟩ := c.def_ 24 (d := dd_tilt) rfl
  refine ⟨⟨_, _, _, _, _, _, _, fd, n_tilt, [("arm" : PySem.Str), ("standing" : PySem.Str), ("path" : PySem.Str)], F, sc_tilt, rfl, rfl, s_tilt, fun j hj => ⟨[], [], L2.FunD.bindsN F fun _ _ _ _ _ _ us hl => match us, hl with | [_, _, _], _ => rfl, .nil, fun κ G ρ H _ => ?_⟩⟩⟩
  show RVs κ G ρ H (([] : List PV).drop j) []
  simp [RVs]
theorem sc_word : L2.FnScope n_word [("arm" : PySem.Str), ("standing" : PySem.Str), ("path" : PySem.Str)] (L2.defScope (top 42)) := ⟨rfl, rfl, rfl, by decide +kernel, rfl, by decide +kernel, by decide +kernel⟩
theorem ok_word (c : He.SaysD fas fn K) : DefOk Γ K (faOf K) 25 ⟨3, 3, true, b_word⟩ := by
  obtain ⟨fd, F⟩ := c.def_ 25 (d := dd_word) rfl
  refine ⟨⟨_, _, _, _, _, _, _, fd, n_word, [("arm" : PySem.Str), ("standing" : PySem.Str), ("path" : PySem.Str)], F, sc_word, rfl, rfl, s_word, fun j hj => ⟨[], [], L2.FunD.bindsN F fun _ _ _ _ _ _ us hl => match us, hl with | [_, _, _], _ => rfl, .nil, fun κ G ρ H _ => ?_⟩⟩⟩
  show RVs κ G ρ H (([] : List PV).drop j) []
  simp [RVs]
theorem sc__law_cell_at : L2.FnScope n__law_cell_at [("_law_script" : PySem.Str), ("_law_k" : PySem.Str)] (L2.defScope (top 44)) := ⟨rfl, rfl, rfl, by decide +kernel, rfl, by decide +kernel, by decide +kernel⟩
theorem ok__law_cell_at (c : He.SaysD fas fn K) : DefOk Γ K (faOf K) 26 ⟨2, 2, true, b__law_cell_at⟩ := by
  obtain ⟨fd, F⟩ := c.def_ 26 (d := dd__law_cell_at) rfl
  refine ⟨⟨_, _, _, _, _, _, _, fd, n__law_cell_at, [("_law_script" : PySem.Str), ("_law_k" : PySem.Str)], F, sc__law_cell_at, rfl, rfl, s__law_cell_at, fun j hj => ⟨[], [], L2.FunD.bindsN F fun _ _ _ _ _ _ us hl => match us, hl with | [_, _], _ => rfl, .nil, fun κ G ρ H _ => ?_⟩⟩⟩
  show RVs κ G ρ H (([] : List PV).drop j) []
  simp [RVs]
theorem sc__law_pen : L2.FnScope n__law_pen [("_law_cell" : PySem.Str)] (L2.defScope (top 45)) := ⟨rfl, rfl, rfl, by decide +kernel, rfl, by decide +kernel, by decide +kernel⟩
theorem ok__law_pen (c : He.SaysD fas fn K) : DefOk Γ K (faOf K) 27 ⟨1, 1, false, b__law_pen⟩ := by
  obtain ⟨fd, F⟩ := c.def_ 27 (d := dd__law_pen) rfl
  refine ⟨⟨_, _, _, _, _, _, _, fd, n__law_pen, [("_law_cell" : PySem.Str)], F, sc__law_pen, rfl, rfl, s__law_pen, fun j hj => ⟨[], [], L2.FunD.bindsN F fun _ _ _ _ _ _ us hl => match us, hl with | [_], _ => rfl, .nil, fun κ G ρ H _ => ?_⟩⟩⟩
  show RVs κ G ρ H (([] : List PV).drop j) []
  simp [RVs]
theorem sc__law_draw : L2.FnScope n__law_draw [("_law_pen_here" : PySem.Str), ("_law_many" : PySem.Str)] (L2.defScope (top 46)) := ⟨rfl, rfl, rfl, by decide +kernel, rfl, by decide +kernel, by decide +kernel⟩
theorem ok__law_draw (c : He.SaysD fas fn K) : DefOk Γ K (faOf K) 28 ⟨2, 4, false, b__law_draw⟩ := by
  obtain ⟨fd, F⟩ := c.def_ 28 (d := dd__law_draw) rfl
  refine ⟨⟨_, _, _, _, _, _, _, fd, n__law_draw, [("_law_pen_here" : PySem.Str), ("_law_many" : PySem.Str)], F, sc__law_draw, rfl, rfl, s__law_draw, fun j hj => ⟨[], [], L2.FunD.bindsN F fun _ _ _ _ _ _ us hl => match us, hl with | [_, _], _ => rfl, .nil, fun κ G ρ H _ => ?_⟩⟩⟩
  show RVs κ G ρ H (([] : List PV).drop j) []
  simp [RVs]
theorem sc__law_same : L2.FnScope n__law_same [("_law_found" : PySem.Str), ("_law_due" : PySem.Str)] (L2.defScope (top 47)) := ⟨rfl, rfl, rfl, by decide +kernel, rfl, by decide +kernel, by decide +kernel⟩
theorem ok__law_same (c : He.SaysD fas fn K) : DefOk Γ K (faOf K) 29 ⟨2, 2, true, b__law_same⟩ := by
  obtain ⟨fd, F⟩ := c.def_ 29 (d := dd__law_same) rfl
  refine ⟨⟨_, _, _, _, _, _, _, fd, n__law_same, [("_law_found" : PySem.Str), ("_law_due" : PySem.Str)], F, sc__law_same, rfl, rfl, s__law_same, fun j hj => ⟨[], [], L2.FunD.bindsN F fun _ _ _ _ _ _ us hl => match us, hl with | [_, _], _ => rfl, .nil, fun κ G ρ H _ => ?_⟩⟩⟩
  show RVs κ G ρ H (([] : List PV).drop j) []
  simp [RVs]
theorem sc__law_lone : L2.FnScope n__law_lone [("_law_pen_here" : PySem.Str), ("_law_most" : PySem.Str), ("_law_held" : PySem.Str)] (L2.defScope (top 48)) := ⟨rfl, rfl, rfl, by decide +kernel, rfl, by decide +kernel, by decide +kernel⟩
theorem ok__law_lone (c : He.SaysD fas fn K) : DefOk Γ K (faOf K) 30 ⟨3, 4, false, b__law_lone⟩ := by
  obtain ⟨fd, F⟩ := c.def_ 30 (d := dd__law_lone) rfl
  refine ⟨⟨_, _, _, _, _, _, _, fd, n__law_lone, [("_law_pen_here" : PySem.Str), ("_law_most" : PySem.Str), ("_law_held" : PySem.Str)], F, sc__law_lone, rfl, rfl, s__law_lone, fun j hj => ⟨[], [], L2.FunD.bindsN F fun _ _ _ _ _ _ us hl => match us, hl with | [_, _, _], _ => rfl, .nil, fun κ G ρ H _ => ?_⟩⟩⟩
  show RVs κ G ρ H (([] : List PV).drop j) []
  simp [RVs]
theorem sc__law_hung : L2.FnScope n__law_hung [("_law_pen_here" : PySem.Str), ("_law_arm_here" : PySem.Str), ("_law_things" : PySem.Str)] (L2.defScope (top 49)) := ⟨rfl, rfl, rfl, by decide +kernel, rfl, by decide +kernel, by decide +kernel⟩
theorem ok__law_hung (c : He.SaysD fas fn K) : DefOk Γ K (faOf K) 31 ⟨3, 9, false, b__law_hung⟩ := by
  obtain ⟨fd, F⟩ := c.def_ 31 (d := dd__law_hung) rfl
  refine ⟨⟨_, _, _, _, _, _, _, fd, n__law_hung, [("_law_pen_here" : PySem.Str), ("_law_arm_here" : PySem.Str), ("_law_things" : PySem.Str)], F, sc__law_hung, rfl, rfl, s__law_hung, fun j hj => ⟨[], [], L2.FunD.bindsN F fun _ _ _ _ _ _ us hl => match us, hl with | [_, _, _], _ => rfl, .nil, fun κ G ρ H _ => ?_⟩⟩⟩
  show RVs κ G ρ H (([] : List PV).drop j) []
  simp [RVs]
theorem sc__law_arm : L2.FnScope n__law_arm [("_law_pen_here" : PySem.Str), ("_law_most" : PySem.Str), ("_law_held" : PySem.Str), ("_law_arms" : PySem.Str)] (L2.defScope (top 50)) := ⟨rfl, rfl, rfl, by decide +kernel, rfl, by decide +kernel, by decide +kernel⟩
theorem ok__law_arm (c : He.SaysD fas fn K) : DefOk Γ K (faOf K) 32 ⟨4, 8, false, b__law_arm⟩ := by
  obtain ⟨fd, F⟩ := c.def_ 32 (d := dd__law_arm) rfl
  refine ⟨⟨_, _, _, _, _, _, _, fd, n__law_arm, [("_law_pen_here" : PySem.Str), ("_law_most" : PySem.Str), ("_law_held" : PySem.Str), ("_law_arms" : PySem.Str)], F, sc__law_arm, rfl, rfl, s__law_arm, fun j hj => ⟨[], [], L2.FunD.bindsN F fun _ _ _ _ _ _ us hl => match us, hl with | [_, _, _, _], _ => rfl, .nil, fun κ G ρ H _ => ?_⟩⟩⟩
  show RVs κ G ρ H (([] : List PV).drop j) []
  simp [RVs]
theorem sc__law_paths : L2.FnScope n__law_paths [("_law_arm_here" : PySem.Str)] (L2.defScope (top 51)) := ⟨rfl, rfl, rfl, by decide +kernel, rfl, by decide +kernel, by decide +kernel⟩
theorem ok__law_paths (c : He.SaysD fas fn K) : DefOk Γ K (faOf K) 33 ⟨1, 5, true, b__law_paths⟩ := by
  obtain ⟨fd, F⟩ := c.def_ 33 (d := dd__law_paths) rfl
  refine ⟨⟨_, _, _, _, _, _, _, fd, n__law_paths, [("_law_arm_here" : PySem.Str)], F, sc__law_paths, rfl, rfl, s__law_paths, fun j hj => ⟨[], [], L2.FunD.bindsN F fun _ _ _ _ _ _ us hl => match us, hl with | [_], _ => rfl, .nil, fun κ G ρ H _ => ?_⟩⟩⟩
  show RVs κ G ρ H (([] : List PV).drop j) []
  simp [RVs]
theorem sc__law_at : L2.FnScope n__law_at [("_law_arm_here" : PySem.Str), ("_law_path" : PySem.Str)] (L2.defScope (top 52)) := ⟨rfl, rfl, rfl, by decide +kernel, rfl, by decide +kernel, by decide +kernel⟩
theorem ok__law_at (c : He.SaysD fas fn K) : DefOk Γ K (faOf K) 34 ⟨2, 5, true, b__law_at⟩ := by
  obtain ⟨fd, F⟩ := c.def_ 34 (d := dd__law_at) rfl
  refine ⟨⟨_, _, _, _, _, _, _, fd, n__law_at, [("_law_arm_here" : PySem.Str), ("_law_path" : PySem.Str)], F, sc__law_at, rfl, rfl, s__law_at, fun j hj => ⟨[], [], L2.FunD.bindsN F fun _ _ _ _ _ _ us hl => match us, hl with | [_, _], _ => rfl, .nil, fun κ G ρ H _ => ?_⟩⟩⟩
  show RVs κ G ρ H (([] : List PV).drop j) []
  simp [RVs]
theorem sc__law_beads : L2.FnScope n__law_beads [("_law_pen_here" : PySem.Str), ("_law_arm_here" : PySem.Str), ("_law_most" : PySem.Str)] (L2.defScope (top 53)) := ⟨rfl, rfl, rfl, by decide +kernel, rfl, by decide +kernel, by decide +kernel⟩
theorem ok__law_beads (c : He.SaysD fas fn K) : DefOk Γ K (faOf K) 35 ⟨3, 10, false, b__law_beads⟩ := by
  obtain ⟨fd, F⟩ := c.def_ 35 (d := dd__law_beads) rfl
  refine ⟨⟨_, _, _, _, _, _, _, fd, n__law_beads, [("_law_pen_here" : PySem.Str), ("_law_arm_here" : PySem.Str), ("_law_most" : PySem.Str)], F, sc__law_beads, rfl, rfl, s__law_beads, fun j hj => ⟨[], [], L2.FunD.bindsN F fun _ _ _ _ _ _ us hl => match us, hl with | [_, _, _], _ => rfl, .nil, fun κ G ρ H _ => ?_⟩⟩⟩
  show RVs κ G ρ H (([] : List PV).drop j) []
  simp [RVs]
theorem sc__law_standing : L2.FnScope n__law_standing [("_law_pen_here" : PySem.Str), ("_law_arm_here" : PySem.Str), ("_law_most" : PySem.Str)] (L2.defScope (top 54)) := ⟨rfl, rfl, rfl, by decide +kernel, rfl, by decide +kernel, by decide +kernel⟩
theorem ok__law_standing (c : He.SaysD fas fn K) : DefOk Γ K (faOf K) 36 ⟨3, 4, false, b__law_standing⟩ := by
  obtain ⟨fd, F⟩ := c.def_ 36 (d := dd__law_standing) rfl
  refine ⟨⟨_, _, _, _, _, _, _, fd, n__law_standing, [("_law_pen_here" : PySem.Str), ("_law_arm_here" : PySem.Str), ("_law_most" : PySem.Str)], F, sc__law_standing, rfl, rfl, s__law_standing, fun j hj => ⟨[], [], L2.FunD.bindsN F fun _ _ _ _ _ _ us hl => match us, hl with | [_, _, _], _ => rfl, .nil, fun κ G ρ H _ => ?_⟩⟩⟩
  show RVs κ G ρ H (([] : List PV).drop j) []
  simp [RVs]
theorem sc__law_load : L2.FnScope n__law_load [("_law_arm_here" : PySem.Str), ("_law_standing_here" : PySem.Str), ("_law_path" : PySem.Str)] (L2.defScope (top 55)) := ⟨rfl, rfl, rfl, by decide +kernel, rfl, by decide +kernel, by decide +kernel⟩
theorem ok__law_load (c : He.SaysD fas fn K) : DefOk Γ K (faOf K) 37 ⟨3, 9, true, b__law_load⟩ := by
  obtain ⟨fd, F⟩ := c.def_ 37 (d := dd__law_load) rfl
  refine ⟨⟨_, _, _, _, _, _, _, fd, n__law_load, [("_law_arm_here" : PySem.Str), ("_law_standing_here" : PySem.Str), ("_law_path" : PySem.Str)], F, sc__law_load, rfl, rfl, s__law_load, fun j hj => ⟨[], [], L2.FunD.bindsN F fun _ _ _ _ _ _ us hl => match us, hl with | [_, _, _], _ => rfl, .nil, fun κ G ρ H _ => ?_⟩⟩⟩
  show RVs κ G ρ H (([] : List PV).drop j) []
  simp [RVs]
theorem sc__law_tilt : L2.FnScope n__law_tilt [("_law_arm_here" : PySem.Str), ("_law_standing_here" : PySem.Str), ("_law_path" : PySem.Str)] (L2.defScope (top 56)) := ⟨rfl, rfl, rfl, by decide +kernel, rfl, by decide +kernel, by decide +kernel⟩
theorem ok__law_tilt (c : He.SaysD fas fn K) : DefOk Γ K (faOf K) 38 ⟨3, 9, true, b__law_tilt⟩ := by
  obtain ⟨fd, F⟩ := c.def_ 38 (d := dd__law_tilt) rfl
  refine ⟨⟨_, _, _, _, _, _, _, fd, n__law_tilt, [("_law_arm_here" : PySem.Str), ("_law_standing_here" : PySem.Str), ("_law_path" : PySem.Str)], F, sc__law_tilt, rfl, rfl, s__law_tilt, fun j hj => ⟨[], [], L2.FunD.bindsN F fun _ _ _ _ _ _ us hl => match us, hl with | [_, _, _], _ => rfl, .nil, fun κ G ρ H _ => ?_⟩⟩⟩
  show RVs κ G ρ H (([] : List PV).drop j) []
  simp [RVs]
theorem sc__law_word : L2.FnScope n__law_word [("_law_arm_here" : PySem.Str), ("_law_standing_here" : PySem.Str), ("_law_path" : PySem.Str)] (L2.defScope (top 57)) := ⟨rfl, rfl, rfl, by decide +kernel, rfl, by decide +kernel, by decide +kernel⟩
theorem ok__law_word (c : He.SaysD fas fn K) : DefOk Γ K (faOf K) 39 ⟨3, 5, true, b__law_word⟩ := by
  obtain ⟨fd, F⟩ := c.def_ 39 (d := dd__law_word) rfl
  refine ⟨⟨_, _, _, _, _, _, _, fd, n__law_word, [("_law_arm_here" : PySem.Str), ("_law_standing_here" : PySem.Str), ("_law_path" : PySem.Str)], F, sc__law_word, rfl, rfl, s__law_word, fun j hj => ⟨[], [], L2.FunD.bindsN F fun _ _ _ _ _ _ us hl => match us, hl with | [_, _, _], _ => rfl, .nil, fun κ G ρ H _ => ?_⟩⟩⟩
  show RVs κ G ρ H (([] : List PV).drop j) []
  simp [RVs]
theorem sc__law_right : L2.FnScope n__law_right [("_law_arm_here" : PySem.Str), ("_law_standing_here" : PySem.Str)] (L2.defScope (top 58)) := ⟨rfl, rfl, rfl, by decide +kernel, rfl, by decide +kernel, by decide +kernel⟩
theorem ok__law_right (c : He.SaysD fas fn K) : DefOk Γ K (faOf K) 40 ⟨2, 6, true, b__law_right⟩ := by
  obtain ⟨fd, F⟩ := c.def_ 40 (d := dd__law_right) rfl
  refine ⟨⟨_, _, _, _, _, _, _, fd, n__law_right, [("_law_arm_here" : PySem.Str), ("_law_standing_here" : PySem.Str)], F, sc__law_right, rfl, rfl, s__law_right, fun j hj => ⟨[], [], L2.FunD.bindsN F fun _ _ _ _ _ _ us hl => match us, hl with | [_, _], _ => rfl, .nil, fun κ G ρ H _ => ?_⟩⟩⟩
  show RVs κ G ρ H (([] : List PV).drop j) []
  simp [RVs]
theorem sc__law_slacks_right : L2.FnScope n__law_slacks_right [] (L2.defScope (top 59)) := ⟨rfl, rfl, rfl, by decide +kernel, rfl, by decide +kernel, by decide +kernel⟩
theorem ok__law_slacks_right (c : He.SaysD fas fn K) : DefOk Γ K (faOf K) 41 ⟨0, 5, true, b__law_slacks_right⟩ := by
  obtain ⟨fd, F⟩ := c.def_ 41 (d := dd__law_slacks_right) rfl
  refine ⟨⟨_, _, _, _, _, _, _, fd, n__law_slacks_right, [], F, sc__law_slacks_right, rfl, rfl, s__law_slacks_right, fun j hj => ⟨[], [], L2.FunD.bindsN F fun _ _ _ _ _ _ us hl => match us, hl with | [], _ => rfl, .nil, fun κ G ρ H _ => ?_⟩⟩⟩
  show RVs κ G ρ H (([] : List PV).drop j) []
  simp [RVs]
theorem sc_law : L2.FnScope n_law [("_law_script" : PySem.Str)] (L2.defScope (top 60)) := ⟨rfl, rfl, rfl, by decide +kernel, rfl, by decide +kernel, by decide +kernel⟩
theorem ok_law (c : He.SaysD fas fn K) : DefOk Γ K (faOf K) 42 ⟨1, 6, true, b_law⟩ := by
  obtain ⟨fd, F⟩ := c.def_ 42 (d := dd_law) rfl
  refine ⟨⟨_, _, _, _, _, _, _, fd, n_law, [("_law_script" : PySem.Str)], F, sc_law, rfl, rfl, s_law, fun j hj => ⟨[], [], L2.FunD.bindsN F fun _ _ _ _ _ _ us hl => match us, hl with | [_], _ => rfl, .nil, fun κ G ρ H _ => ?_⟩⟩⟩
  show RVs κ G ρ H (([] : List PV).drop j) []
  simp [RVs]
end
theorem envAll {P : PySem.Program} {w : PySem.World} {K : PySem.W.Frag} {h : PySem.Heap} {mg : PySem.Str → Option PySem.Value} {base : PySem.Heap} (X : K.In h) (G : h.Ns PySem.mainGlobals mg) (c : He.SaysD fas fn K) (ex : exB K = true) : ∀ n, EnvOk Γ ⟨P, w, K, clOf K⟩ mg base n (faOf K) := by
  refine envOk_all (fun f d e => ?_) (fun f x e => ?_) (fun C x e => ?_) (fun C x f e hf => ?_) (fun C x m f e hm => ?_) (fun x v e => ?_) (fun x hx => ?_)
  · match f, e with
    | 0, e => cases e; exact ok_is_whole c
    | 1, e => cases e; exact ok_is_within c
    | 2, e => cases e; exact ok_is_long c
    | 3, e => cases e; exact ok_rises c
    | 4, e => cases e; exact ok_falls_not c
    | 5, e => cases e; exact ok_is_arm_by c
    | 6, e => cases e; exact ok_is_weight c
    | 7, e => cases e; exact ok_arms_in c
    | 8, e => cases e; exact ok_is_arm c
    | 9, e => cases e; exact ok_need_arm c
    | 10, e => cases e; exact ok_paths_by c
    | 11, e => cases e; exact ok_is_path c
    | 12, e => cases e; exact ok_need_path c
    | 13, e => cases e; exact ok_arm_by c
    | 14, e => cases e; exact ok_is_bead c
    | 15, e => cases e; exact ok_are_beads c
    | 16, e => cases e; exact ok_is_standing_by c
    | 17, e => cases e; exact ok_need_standing c
    | 18, e => cases e; exact ok_Seenu__initu_ c
    | 19, e => cases e; exact ok_Seen_look c
    | 20, e => cases e; exact ok_word_by c
    | 21, e => cases e; exact ok_words_by c
    | 22, e => cases e; exact ok_need_place_of c
    | 23, e => cases e; exact ok_load c
    | 24, e => cases e; exact ok_tilt c
    | 25, e => cases e; exact ok_word c
    | 26, e => cases e; exact ok__law_cell_at c
    | 27, e => cases e; exact ok__law_pen c
    | 28, e => cases e; exact ok__law_draw c
    | 29, e => cases e; exact ok__law_same c
    | 30, e => cases e; exact ok__law_lone c
    | 31, e => cases e; exact ok__law_hung c
    | 32, e => cases e; exact ok__law_arm c
    | 33, e => cases e; exact ok__law_paths c
    | 34, e => cases e; exact ok__law_at c
    | 35, e => cases e; exact ok__law_beads c
    | 36, e => cases e; exact ok__law_standing c
    | 37, e => cases e; exact ok__law_load c
    | 38, e => cases e; exact ok__law_tilt c
    | 39, e => cases e; exact ok__law_word c
    | 40, e => cases e; exact ok__law_right c
    | 41, e => cases e; exact ok__law_slacks_right c
    | 42, e => cases e; exact ok_law c
    | k + 43, e => cases e
  · match f, e with
    | 0, e => cases e; exact He.glo_ok X G (c.fact 0 (f := .glo ("is_whole" : PySem.Str)) rfl)
    | 1, e => cases e; exact He.glo_ok X G (c.fact 1 (f := .glo ("is_within" : PySem.Str)) rfl)
    | 2, e => cases e; exact He.glo_ok X G (c.fact 2 (f := .glo ("is_long" : PySem.Str)) rfl)
    | 3, e => cases e; exact He.glo_ok X G (c.fact 3 (f := .glo ("rises" : PySem.Str)) rfl)
    | 4, e => cases e; exact He.glo_ok X G (c.fact 4 (f := .glo ("falls_not" : PySem.Str)) rfl)
    | 5, e => cases e; exact He.glo_ok X G (c.fact 5 (f := .glo ("is_arm_by" : PySem.Str)) rfl)
    | 6, e => cases e; exact He.glo_ok X G (c.fact 6 (f := .glo ("is_weight" : PySem.Str)) rfl)
    | 7, e => cases e; exact He.glo_ok X G (c.fact 7 (f := .glo ("arms_in" : PySem.Str)) rfl)
    | 8, e => cases e; exact He.glo_ok X G (c.fact 8 (f := .glo ("is_arm" : PySem.Str)) rfl)
    | 9, e => cases e; exact He.glo_ok X G (c.fact 9 (f := .glo ("need_arm" : PySem.Str)) rfl)
    | 10, e => cases e; exact He.glo_ok X G (c.fact 10 (f := .glo ("paths_by" : PySem.Str)) rfl)
    | 11, e => cases e; exact He.glo_ok X G (c.fact 11 (f := .glo ("is_path" : PySem.Str)) rfl)
    | 12, e => cases e; exact He.glo_ok X G (c.fact 12 (f := .glo ("need_path" : PySem.Str)) rfl)
    | 13, e => cases e; exact He.glo_ok X G (c.fact 13 (f := .glo ("arm_by" : PySem.Str)) rfl)
    | 14, e => cases e; exact He.glo_ok X G (c.fact 14 (f := .glo ("is_bead" : PySem.Str)) rfl)
    | 15, e => cases e; exact He.glo_ok X G (c.fact 15 (f := .glo ("are_beads" : PySem.Str)) rfl)
    | 16, e => cases e; exact He.glo_ok X G (c.fact 16 (f := .glo ("is_standing_by" : PySem.Str)) rfl)
    | 17, e => cases e; exact He.glo_ok X G (c.fact 17 (f := .glo ("need_standing" : PySem.Str)) rfl)
    | 18, e => cases e
    | 19, e => cases e
    | 20, e => cases e; exact He.glo_ok X G (c.fact 18 (f := .glo ("word_by" : PySem.Str)) rfl)
    | 21, e => cases e; exact He.glo_ok X G (c.fact 19 (f := .glo ("words_by" : PySem.Str)) rfl)
    | 22, e => cases e; exact He.glo_ok X G (c.fact 20 (f := .glo ("need_place_of" : PySem.Str)) rfl)
    | 23, e => cases e; exact He.glo_ok X G (c.fact 21 (f := .glo ("load" : PySem.Str)) rfl)
    | 24, e => cases e; exact He.glo_ok X G (c.fact 22 (f := .glo ("tilt" : PySem.Str)) rfl)
    | 25, e => cases e; exact He.glo_ok X G (c.fact 23 (f := .glo ("word" : PySem.Str)) rfl)
    | 26, e => cases e; exact He.glo_ok X G (c.fact 24 (f := .glo ("_law_cell_at" : PySem.Str)) rfl)
    | 27, e => cases e; exact He.glo_ok X G (c.fact 25 (f := .glo ("_law_pen" : PySem.Str)) rfl)
    | 28, e => cases e; exact He.glo_ok X G (c.fact 26 (f := .glo ("_law_draw" : PySem.Str)) rfl)
    | 29, e => cases e; exact He.glo_ok X G (c.fact 27 (f := .glo ("_law_same" : PySem.Str)) rfl)
    | 30, e => cases e; exact He.glo_ok X G (c.fact 28 (f := .glo ("_law_lone" : PySem.Str)) rfl)
    | 31, e => cases e; exact He.glo_ok X G (c.fact 29 (f := .glo ("_law_hung" : PySem.Str)) rfl)
    | 32, e => cases e; exact He.glo_ok X G (c.fact 30 (f := .glo ("_law_arm" : PySem.Str)) rfl)
    | 33, e => cases e; exact He.glo_ok X G (c.fact 31 (f := .glo ("_law_paths" : PySem.Str)) rfl)
    | 34, e => cases e; exact He.glo_ok X G (c.fact 32 (f := .glo ("_law_at" : PySem.Str)) rfl)
    | 35, e => cases e; exact He.glo_ok X G (c.fact 33 (f := .glo ("_law_beads" : PySem.Str)) rfl)
    | 36, e => cases e; exact He.glo_ok X G (c.fact 34 (f := .glo ("_law_standing" : PySem.Str)) rfl)
    | 37, e => cases e; exact He.glo_ok X G (c.fact 35 (f := .glo ("_law_load" : PySem.Str)) rfl)
    | 38, e => cases e; exact He.glo_ok X G (c.fact 36 (f := .glo ("_law_tilt" : PySem.Str)) rfl)
    | 39, e => cases e; exact He.glo_ok X G (c.fact 37 (f := .glo ("_law_word" : PySem.Str)) rfl)
    | 40, e => cases e; exact He.glo_ok X G (c.fact 38 (f := .glo ("_law_right" : PySem.Str)) rfl)
    | 41, e => cases e; exact He.glo_ok X G (c.fact 39 (f := .glo ("_law_slacks_right" : PySem.Str)) rfl)
    | 42, e => cases e; exact He.glo_ok X G (c.fact 40 (f := .glo ("law" : PySem.Str)) rfl)
    | k + 43, e => cases e
  · match C, e with
    | 0, e => cases e
    | 1, e => cases e
    | 2, e => cases e
    | 3, e => cases e
    | 4, e => cases e; exact ⟨He.glo_ok X G (c.fact 68 (f := .glo ("Seen" : PySem.Str)) rfl), He.mkr_ok (c.fact 70 (f := .mkr ("Seen" : PySem.Str)) rfl), He.cls_ok (c.fact 69 (f := .cls ("Seen" : PySem.Str)) rfl)⟩
    | k + 5, e => cases e
  · match C, e with
    | 0, e => cases e
    | 1, e => cases e
    | 2, e => cases e
    | 3, e => cases e
    | 4, e =>
      simp only [Γ, flds, List.mem_cons, List.not_mem_nil, or_false] at hf
      rcases hf with rfl | rfl | rfl
      · exact He.noat_ok (c.fact 71 (f := .noat ("Seen" : PySem.Str) ("beads" : PySem.Str)) rfl)
      · exact He.noat_ok (c.fact 72 (f := .noat ("Seen" : PySem.Str) ("loads" : PySem.Str)) rfl)
      · exact He.noat_ok (c.fact 73 (f := .noat ("Seen" : PySem.Str) ("tilts" : PySem.Str)) rfl)
    | k + 5, e => cases e
  · match C, e with
    | 0, e => cases e
    | 1, e => cases e
    | 2, e => cases e
    | 3, e => cases e
    | 4, e =>
      simp only [Γ, mths, List.mem_cons, List.not_mem_nil, or_false, Prod.mk.injEq] at hm
      rcases hm with ⟨rfl, rfl⟩
      · exact He.meth_ok (c.fact 74 (f := .meth ("Seen" : PySem.Str) ("look" : PySem.Str)) rfl)
    | k + 5, e => cases e
  · have e : csts x = some v := e
    unfold csts at e
    by_cases hs : sEq x ("MOST_SIDE" : PySem.Str) = true
    · rw [if_pos hs] at e
      have hs := sEq_iff.mp hs
      subst hs
      cases e
      obtain ⟨t, q⟩ := He.int_ok X G (c.fact 57 (f := .int ("MOST_SIDE" : PySem.Str) 3) rfl)
      exact ⟨_, .int 3, q, ⟨t, rfl⟩, fun κ F ρ H _ => by simp only [RV]⟩
    rw [if_neg hs] at e
    by_cases hs : sEq x ("MOST_SLACK" : PySem.Str) = true
    · rw [if_pos hs] at e
      have hs := sEq_iff.mp hs
      subst hs
      cases e
      obtain ⟨t, q⟩ := He.int_ok X G (c.fact 58 (f := .int ("MOST_SLACK" : PySem.Str) 9) rfl)
      exact ⟨_, .int 9, q, ⟨t, rfl⟩, fun κ F ρ H _ => by simp only [RV]⟩
    rw [if_neg hs] at e
    by_cases hs : sEq x ("MOST_HOLDS" : PySem.Str) = true
    · rw [if_pos hs] at e
      have hs := sEq_iff.mp hs
      subst hs
      cases e
      obtain ⟨t, q⟩ := He.int_ok X G (c.fact 59 (f := .int ("MOST_HOLDS" : PySem.Str) 3) rfl)
      exact ⟨_, .int 3, q, ⟨t, rfl⟩, fun κ F ρ H _ => by simp only [RV]⟩
    rw [if_neg hs] at e
    by_cases hs : sEq x ("MOST_WEIGHT" : PySem.Str) = true
    · rw [if_pos hs] at e
      have hs := sEq_iff.mp hs
      subst hs
      cases e
      obtain ⟨t, q⟩ := He.int_ok X G (c.fact 60 (f := .int ("MOST_WEIGHT" : PySem.Str) 9) rfl)
      exact ⟨_, .int 9, q, ⟨t, rfl⟩, fun κ F ρ H _ => by simp only [RV]⟩
    rw [if_neg hs] at e
    by_cases hs : sEq x ("MOST_ARMS" : PySem.Str) = true
    · rw [if_pos hs] at e
      have hs := sEq_iff.mp hs
      subst hs
      cases e
      obtain ⟨t, q⟩ := He.int_ok X G (c.fact 61 (f := .int ("MOST_ARMS" : PySem.Str) 4) rfl)
      exact ⟨_, .int 4, q, ⟨t, rfl⟩, fun κ F ρ H _ => by simp only [RV]⟩
    rw [if_neg hs] at e
    by_cases hs : sEq x ("MOST_DEEP" : PySem.Str) = true
    · rw [if_pos hs] at e
      have hs := sEq_iff.mp hs
      subst hs
      cases e
      obtain ⟨t, q⟩ := He.int_ok X G (c.fact 62 (f := .int ("MOST_DEEP" : PySem.Str) 3) rfl)
      exact ⟨_, .int 3, q, ⟨t, rfl⟩, fun κ F ρ H _ => by simp only [RV]⟩
    rw [if_neg hs] at e
    by_cases hs : sEq x ("LONG_ARM" : PySem.Str) = true
    · rw [if_pos hs] at e
      have hs := sEq_iff.mp hs
      subst hs
      cases e
      obtain ⟨t, q⟩ := He.int_ok X G (c.fact 63 (f := .int ("LONG_ARM" : PySem.Str) 5) rfl)
      exact ⟨_, .int 5, q, ⟨t, rfl⟩, fun κ F ρ H _ => by simp only [RV]⟩
    rw [if_neg hs] at e
    by_cases hs : sEq x ("MOST_BEAD" : PySem.Str) = true
    · rw [if_pos hs] at e
      have hs := sEq_iff.mp hs
      subst hs
      cases e
      obtain ⟨t, q⟩ := He.int_ok X G (c.fact 64 (f := .int ("MOST_BEAD" : PySem.Str) 3) rfl)
      exact ⟨_, .int 3, q, ⟨t, rfl⟩, fun κ F ρ H _ => by simp only [RV]⟩
    rw [if_neg hs] at e
    by_cases hs : sEq x ("LEVEL" : PySem.Str) = true
    · rw [if_pos hs] at e
      have hs := sEq_iff.mp hs
      subst hs
      cases e
      obtain ⟨t, q⟩ := He.str_ok X G (c.fact 65 (f := .str ("LEVEL" : PySem.Str) ("level" : PySem.Str)) rfl)
      exact ⟨_, .str ("level" : PySem.Str), q, ⟨t, rfl⟩, fun κ F ρ H _ => by simp only [RV]; rfl⟩
    rw [if_neg hs] at e
    by_cases hs : sEq x ("LEFT" : PySem.Str) = true
    · rw [if_pos hs] at e
      have hs := sEq_iff.mp hs
      subst hs
      cases e
      obtain ⟨t, q⟩ := He.str_ok X G (c.fact 66 (f := .str ("LEFT" : PySem.Str) ("left" : PySem.Str)) rfl)
      exact ⟨_, .str ("left" : PySem.Str), q, ⟨t, rfl⟩, fun κ F ρ H _ => by simp only [RV]; rfl⟩
    rw [if_neg hs] at e
    by_cases hs : sEq x ("RIGHT" : PySem.Str) = true
    · rw [if_pos hs] at e
      have hs := sEq_iff.mp hs
      subst hs
      cases e
      obtain ⟨t, q⟩ := He.str_ok X G (c.fact 67 (f := .str ("RIGHT" : PySem.Str) ("right" : PySem.Str)) rfl)
      exact ⟨_, .str ("right" : PySem.Str), q, ⟨t, rfl⟩, fun κ F ρ H _ => by simp only [RV]; rfl⟩
    rw [if_neg hs] at e
    · cases e
  · have all : ∀ x ∈ fre, mg x = none := (List.forall_mem_cons.mpr ⟨He.free_ok X G (c.fact 41 (f := .free ("abs" : PySem.Str)) rfl), (List.forall_mem_cons.mpr ⟨He.free_ok X G (c.fact 42 (f := .free ("all" : PySem.Str)) rfl), (List.forall_mem_cons.mpr ⟨He.free_ok X G (c.fact 43 (f := .free ("bool" : PySem.Str)) rfl), (List.forall_mem_cons.mpr ⟨He.free_ok X G (c.fact 44 (f := .free ("dict" : PySem.Str)) rfl), (List.forall_mem_cons.mpr ⟨He.free_ok X G (c.fact 45 (f := .free ("int" : PySem.Str)) rfl), (List.forall_mem_cons.mpr ⟨He.free_ok X G (c.fact 46 (f := .free ("isinstance" : PySem.Str)) rfl), (List.forall_mem_cons.mpr ⟨He.free_ok X G (c.fact 47 (f := .free ("len" : PySem.Str)) rfl), (List.forall_mem_cons.mpr ⟨He.free_ok X G (c.fact 48 (f := .free ("list" : PySem.Str)) rfl), (List.forall_mem_cons.mpr ⟨He.free_ok X G (c.fact 49 (f := .free ("max" : PySem.Str)) rfl), (List.forall_mem_cons.mpr ⟨He.free_ok X G (c.fact 50 (f := .free ("min" : PySem.Str)) rfl), (List.forall_mem_cons.mpr ⟨He.free_ok X G (c.fact 51 (f := .free ("range" : PySem.Str)) rfl), (List.forall_mem_cons.mpr ⟨He.free_ok X G (c.fact 52 (f := .free ("repr" : PySem.Str)) rfl), (List.forall_mem_cons.mpr ⟨He.free_ok X G (c.fact 53 (f := .free ("sorted" : PySem.Str)) rfl), (List.forall_mem_cons.mpr ⟨He.free_ok X G (c.fact 54 (f := .free ("sum" : PySem.Str)) rfl), (List.forall_mem_cons.mpr ⟨He.free_ok X G (c.fact 55 (f := .free ("tuple" : PySem.Str)) rfl), (List.forall_mem_cons.mpr ⟨He.free_ok X G (c.fact 56 (f := .free ("zip" : PySem.Str)) rfl), (fun _ h => nomatch h)⟩)⟩)⟩)⟩)⟩)⟩)⟩)⟩)⟩)⟩)⟩)⟩)⟩)⟩)⟩)⟩)
    exact all x hx
end Dn

namespace Dn
open PySem
theorem runX (w : PySem.World) : HandSHeadRun.RunEq Rw (PySem.W.view Rw.prog [60]) hkX obX 3000 loose w := by
  intro os
  kernel_rfl
end Dn

namespace Dn
open PySem L2
/-- where nothing may fly, it matters not how it would lie -/
theorem shut {P : PySem.Program} {w : PySem.World} {K : PySem.W.Frag} {mg : PySem.Str → Option PySem.Value} {base : PySem.Heap} {k : Nat} {f : PySem.Addr} {fd : PySem.FuncData} {ps : List PySem.Str} {sp : L2.Sp} (F : L2.FnG P w K mg base (L2.CX P w) k f fd ps sp) :
    L2.FnG P w K mg base L2.CX0 k f fd ps (fun vs H Q _ => sp vs H Q fun _ _ _ => False) := by
  refine ⟨fun vs H Q E h => F.len _ _ _ _ h, fun A outer s H args us vs Q E ng hr e0 hb rv h => ?_⟩
  refine PySem.codeAny_mono (F.run A outer s H args us vs Q _ ng hr e0 hb rv h) fun r s' q => ?_
  cases r with
  | ok x => cases x <;> exact q
  | error e =>
    obtain ⟨_, _, _, _, _, _, _, _, _, _, _, _, z⟩ := (show L2.CX P w outer H s (fun _ _ _ => False) e s' from q)
    exact z.elim
/-- what is left: plain Lean -/
def PlainLaw : Prop := ∀ xs : List Int, xs.length ≤ 63 → ∃ st, callN tbl 30 42 [.scr xs] [] = .ok (.bl true) st
theorem facts {P : PySem.Program} {w : PySem.World} {K : PySem.W.Frag} {h : PySem.Heap} {mg : PySem.Str → Option PySem.Value} {f : PySem.Addr} (pl : PlainLaw) (X : K.In h) (G : h.Ns PySem.mainGlobals mg) (hfa : mg ("law" : PySem.Str) = some (.ref f)) (c : He.SaysD fas fn K) (ex : exB K = true) :
    ∃ (fd : PySem.FuncData) (sp : L2.Sp), (∀ (s : PySem.Shared) (u : PySem.Value), PySem.BindsTo s fd ⟨[u], []⟩ [(("_law_script" : PySem.Str), u)]) ∧
      (∀ (H : L2.Hp) (a : PySem.Addr) (xs : List Int), xs.length ≤ 63 → L2.SqL K H a (xs.map L2.V.int) → sp [.ref a] H (fun v _ => v = .bl true) fun _ _ _ => False) ∧ ∀ base : PySem.Heap, L2.FnG P w K mg base L2.CX0 (2 * 30) f fd [("_law_script" : PySem.Str)] sp := by
  obtain ⟨fd, F⟩ := c.def_ 42 (d := dd_law) rfl
  have e := hfa.symm.trans (He.glo_ok X G (c.fact 40 (f := .glo "law") rfl))
  cases e
  have b := L2.FunD.bindsA (ps := [("_law_script" : PySem.Str)]) F fun _ _ _ _ _ _ us hl => match us, hl with | [_], _ => rfl
  refine ⟨fd, _, fun s u => b s [u] rfl, ?_, fun base => shut (spI_ok (Γ := Γ) (c := clOf K) (fa := faOf K) (f := 42) rfl F sc_law rfl rfl s_law (envAll (P := P) (w := w) (base := base) X G c ex (30 - 1)))⟩
  intro H a xs hl hs
  obtain ⟨st, ec⟩ := pl xs hl
  refine ⟨fun _ => False, [], [], [.scr xs], Wd.nil fun _ z => z.elim, ?_, ⟨_, rfl, rfl⟩, ?_⟩
  · simp only [RVs, RV]
    refine ⟨_, _, rfl, ⟨a, rfl, ?_⟩, rfl⟩
    rcases hs with hs | hs
    · exact .inl ⟨hs, fun z => z.elim id fun z => by simp at z⟩
    · exact .inr (.inr hs)
  · show OutF _ _ _ _ (callN tbl 30 42 [.scr xs] []) _ _
    rw [ec]
    intro ρ' H' u _ _ ru
    exact rv_bl ru
end Dn
open PySem PySem.W PySem.Calls PyProof.Rows
theorem zed (pl : Dn.PlainLaw) : PySem.Challenge.rw_tiltbeads_k04_loads_tilts_words.Holds := by
  w_on; o_law
  refine HandSHeadRun.head_any (r := Dn.Rw) (q := view Dn.Rw.prog [60]) (H := Dn.hkX) (ob := Dn.obX) (M := 3000) (loose := Dn.loose) (d := HandSHeadRun.topDef Dn.Rw.prog 60) (kwd := []) Dn.obX_eq
    (by kernel_rfl) (fun s => by kernel_rfl) Dn.runX (by kernel_rfl) (by kernel_rfl) (by kernel_rfl) (by rfl) (by first | assumption | decide +kernel) (by decide +kernel) ⟨rfl, rfl, rfl, rfl, rfl, by decide +kernel⟩ ?hw ?hc
  case hw => w_witness2
  case hc =>
    refine L2.walk_g (l := PySem.Challenge.rw_tiltbeads_k04_loads_tilts_words) (most := 63) (lv := 2 * 30) (nm := ("_law_script" : PySem.Str)) (ways := L2.CX0) rfl (by decide) (by kernel_rfl) ⟨rfl, by decide, by decide⟩ ?F (fun _ _ _ _ z => z)
    intro w mg fa h Y G hmg0
    obtain ⟨K, KX, c, ex⟩ := Y
    have hmg : mg ("law" : PySem.Str) = some (.ref fa) := by
      have e : (HandSHeadRun.topDef Dn.Rw.prog 60).name = ("law" : PySem.Str) := by kernel_rfl
      rw [← e]
      exact hmg0
    obtain ⟨fd, sp, hb, hs, hF⟩ := Dn.facts (P := (PySem.Challenge.rw_tiltbeads_k04_loads_tilts_words).prog) (w := w) pl KX G hmg c ex
    exact ⟨K, fd, sp, KX, hb, fun H a ns hl hS => hs H a ns hl hS, fun base _ _ => hF base⟩

theorem PySem.Challenge.cw_tiltbeads_k04_loads_tilts_words_holds : PySem.Challenge.rw_tiltbeads_k04_loads_tilts_words.Holds := by
  exact zed fun xs h => Dn.plain_law xs h
