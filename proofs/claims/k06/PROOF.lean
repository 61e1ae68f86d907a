import PyProof.Rows.All
import Wide.All
import OpenK.AllK
import Wide.FinOn
import HandS.Codes
import HandS.More
import HandS.ExcOwn
import HandS.ExcField
import HandS.ExcIs
import HandS.TryOnly
import HandS.ForMost
import HandS.Exc
import HandS.WordsExc
import HandS.Defaults
import HandS.Ends
import HandS.HeadEnd
import KE.KDictKeyed
import HandS.Lambda
import KE.KNestM
import HandS.HeadHook4
import HandS.HotCalls
import HandS.ExcInit
import HandS.TupAny
import HandS.TupMul
import HandS.Call
import HandS.IsInst
import HandS.Deep
import HandS.Comp
import HandS.TupLe
import HandS.Zip
import HandS.Small
import HandS.Style
import PyProof.ExcBaseAll.ValueError
import HandS.Zip0
import PyProof.EnumIter
import PyProof.ZipIter
import KE.SortData
import KE.DataCmp
import KE.KDictZip
import KE.KItemsList
import HandS.ListItems
import KE.KDictPairs
import KE.KDictDisplayH
import HandS.DictComp
import PyProof.ReprRoads
import PyProof.ReprLen
import PyProof.ReprText
import HandS.Strs
import KE.DataFind
import HandS.SetFor
import KE.KExcIs
import HandS.FStr
import HandS.MakeKw
import HandS.Conv
import OpenK.KOps
import HandS.EndTab
import HandS.NestedK
import HandS.Spec
import HandS.OwnEq
import KE.KDictWalk
import KE.KDictCopyH
import KE.KDictItemsList
import KE.DataMinMax
import KE.SortKeyHeap
import HandS.SortKw
import HandS.Flow
import KE.GoesMore
import KE.GoesEnum
import HandS.DictEq
import KE.KMinKey
import KE.KTupSum
import HandS.Text
import HandS.Head0
import HandS.Head1
import HandS.Head2
import HandS.HeadHook1
import HandS.HeadHook2
import KE.KStateDown
import HandS.Words
import PySem.Challenge.RW_tiltbeads_k06_an_arm_by_hand_and_by_name
set_option Elab.async false
set_option linter.all false
set_option maxRecDepth 100000
set_option maxHeartbeats 0

namespace Dn
open PySem L2
def kindsX : List String := ["NoneType", "int", "str", "tuple", "list", "dict"]
def eqxB (K : PySem.W.Frag) (C : Addr) : Bool := decide (PySem.W.findIn K (.ref C) "__ne__" = some (some (.builtin "object.__ne__"))) && (kindsX.all fun T => decide (PySem.W.subIn K (.type T) (.ref C) = some false) && (decide (PySem.W.subIn K (.ref C) (.type T) = some false) && decide (PySem.W.kitOne K (.type T) (.ref C) = some false)))
structure InsX (K : PySem.W.Frag) (C : Addr) : Prop where
  ic : C8.InsC K C
  ex : eqxB K C = true
theorem InsX.ne {K : PySem.W.Frag} {C : Addr} (h : InsX K C) : PySem.W.findIn K (.ref C) "__ne__" = some (some (.builtin "object.__ne__")) := by
  have := h.ex
  simp only [eqxB, Bool.and_eq_true, decide_eq_true_eq] at this
  exact this.1
theorem InsX.kd {K : PySem.W.Frag} {C : Addr} (h : InsX K C) {T : String} (hT : T ∈ kindsX) : PySem.W.subIn K (.type T) (.ref C) = some false ∧ PySem.W.subIn K (.ref C) (.type T) = some false ∧ PySem.W.kitOne K (.type T) (.ref C) = some false := by
  have := h.ex
  simp only [eqxB, Bool.and_eq_true, List.all_eq_true, decide_eq_true_eq] at this
  exact this.2 T hT
end Dn
namespace L2
open PySem PySem.Spec PyProof.Rows
open PySem.W (InstAt findIn isFn subIn mroIn Looks)
section
variable {M : Model} {prog : Program} {w : World} {A : Around} {E : Value → Shared → Prop} {s : Shared} {K : PySem.W.Frag} {x C f : Addr} {ox : Obj} {od : Option Obj}
end
end L2


namespace Dn
open PySem

inductive PV where
  | non | bl (b : Bool) | int (i : Int) | str (s : Str)
  | tup (xs : List PV) | lst (xs : List PV) | dic (t : Bool) (kvs : List (PV × PV)) | ref (n : Nat)
  /-- the script -/
  | scr (ns : List Int)
  deriving Inhabited

inductive PO where
  | lst (xs : List PV) | dic (t : Bool) (kvs : List (PV × PV)) | ins (c : Nat) (fs : List (Str × PV))
  /-- a dict that was walked: it changes no more -/
  | frd (t : Bool) (kvs : List (PV × PV))
  /-- an exception that stands -/
  | exo (c : Nat) (fs : List (Str × PV))

abbrev Store := List PO
abbrev Env := List (Option PV)

structure PX where
  c : Nat
  fs : List (Str × PV) := []

inductive Res (α : Type) where
  | ok (a : α) (st : Store) | exc (e : PX) (st : Store) | bad

def Res.bind {α β : Type} : Res α → (α → Store → Res β) → Res β
  | .ok a st, f => f a st
  | .exc e st, _ => .exc e st
  | .bad, _ => .bad
@[simp] theorem Res.bind_ok {α β : Type} (a : α) (st : Store) (f : α → Store → Res β) : (Res.ok a st).bind f = f a st := rfl
@[simp] theorem Res.bind_exc {α β : Type} (e : PX) (st : Store) (f : α → Store → Res β) : (Res.exc e st : Res α).bind f = .exc e st := rfl
@[simp] theorem Res.bind_bad {α β : Type} (f : α → Store → Res β) : (Res.bad : Res α).bind f = .bad := rfl
def Res.calm {α : Type} : Res α → Res α
  | .exc _ _ => .bad
  | r => r
@[simp] theorem Res.calm_ok {α : Type} (a : α) (st : Store) : (Res.ok a st).calm = .ok a st := rfl
def Res.of {α : Type} (st : Store) : Option α → Res α
  | some a => .ok a st
  | none => .bad
@[simp] theorem Res.of_some {α : Type} (st : Store) (a : α) : Res.of st (some a) = .ok a st := rfl
@[simp] theorem Res.of_none {α : Type} (st : Store) : Res.of st (none : Option α) = .bad := rfl


def listEq : List Nat → List Nat → Bool
  | [], [] => true
  | a :: as, b :: bs => a.beq b && listEq as bs
  | _, _ => false
theorem listEq_iff : ∀ {a b : List Nat}, listEq a b = true ↔ a = b
  | [], [] => by simp [listEq]
  | [], _ :: _ => by simp [listEq]
  | _ :: _, [] => by simp [listEq]
  | a :: as, b :: bs => by
    simp only [listEq, Bool.and_eq_true, Nat.beq_eq, listEq_iff (a := as) (b := bs), List.cons.injEq]
def sEq (a b : Str) : Bool := listEq a.cps.toList b.cps.toList
theorem sEq_iff {a b : Str} : sEq a b = true ↔ a = b := by
  unfold sEq
  rw [listEq_iff]
  obtain ⟨⟨a⟩⟩ := a
  obtain ⟨⟨b⟩⟩ := b
  simp
@[simp] theorem sEq_self (a : Str) : sEq a a = true := sEq_iff.mpr rfl
theorem sEq_false {a b : Str} : sEq a b = false ↔ a ≠ b := by
  rw [← Bool.not_eq_true, sEq_iff]
def sLt : List Nat → List Nat → Bool
  | [], [] => false
  | [], _ :: _ => true
  | _ :: _, [] => false
  | a :: as, b :: bs => if a.beq b then sLt as bs else a.blt b


def signsOk : List Nat → Bool
  | [] => true
  | c :: cs => Nat.blt c 1114112 && signsOk cs
mutual
/-- no ref in it -/
def plain : PV → Bool
  | .ref _ => false
  | .tup xs => plainL xs
  | .lst xs => plainL xs
  | .dic _ kvs => plainD kvs
  | .non => true
  | .bl _ => true
  | .int _ => true
  | .str _ => true
  | .scr _ => true
def plainL : List PV → Bool
  | [] => true
  | x :: xs => plain x && plainL xs
def plainD : List (PV × PV) → Bool
  | [] => true
  | (k, v) :: xs => plain k && plain v && plainD xs
end
mutual
/-- Python's == where both sides are data without dicts and objects -/
def eqv : PV → PV → Bool
  | .non, y => (match y with | .non => true | _ => false)
  | .bl a, y => (match y with | .bl b => a == b | .int j => decide ((if a then 1 else 0) = j) | _ => false)
  | .int i, y => (match y with | .int j => decide (i = j) | .bl b => decide (i = (if b then 1 else 0)) | _ => false)
  | .str a, y => (match y with | .str b => sEq a b | _ => false)
  | .tup xs, y => (match y with | .tup ys => eqvL xs ys | _ => false)
  | .lst xs, y => (match y with | .lst ys => eqvL xs ys | _ => false)
  | .dic _ _, _ => false
  | .ref _, _ => false
  | .scr _, _ => false
def eqvL : List PV → List PV → Bool
  | [], ys => (match ys with | [] => true | _ :: _ => false)
  | x :: xs, ys => (match ys with | [] => false | y :: ys => eqv x y && eqvL xs ys)
end
mutual
/-- data that == serves: no dict, no object, at most so deep -/
def flat : Nat → PV → Bool
  | n, .tup xs => (match n with | 0 => false | n + 1 => flatL n xs)
  | n, .lst xs => (match n with | 0 => false | n + 1 => flatL n xs)
  | _, .non => true
  | _, .bl _ => true
  | _, .int _ => true
  | _, .str s => signsOk s.cps.toList
  | _, .dic _ _ => false
  | _, .ref _ => false
  | _, .scr _ => false
def flatL : Nat → List PV → Bool
  | _, [] => true
  | n, x :: xs => flat n x && flatL n xs
end
def eqP (x y : PV) : Option Bool := if flat 60 x && flat 60 y then some (eqv x y) else match x, y with
  | .tup (_ :: _), .tup [] => some false -- whatever the other tuple bears
  | _, _ => none

mutual
/-- structural sameness -/
def same : PV → PV → Bool
  | .non, y => (match y with | .non => true | _ => false)
  | .bl a, y => (match y with | .bl b => a == b | _ => false)
  | .int i, y => (match y with | .int j => decide (i = j) | _ => false)
  | .str a, y => (match y with | .str b => sEq a b | _ => false)
  | .tup xs, y => (match y with | .tup ys => sameL xs ys | _ => false)
  | .lst xs, y => (match y with | .lst ys => sameL xs ys | _ => false)
  | .dic t kvs, y => (match y with | .dic u lws => t == u && sameD kvs lws | _ => false)
  | .ref n, y => (match y with | .ref m => n.beq m | _ => false)
  | .scr ns, y => (match y with | .scr ms => decide (ns = ms) | _ => false)
def sameL : List PV → List PV → Bool
  | [], ys => (match ys with | [] => true | _ :: _ => false)
  | x :: xs, ys => (match ys with | [] => false | y :: ys => same x y && sameL xs ys)
def sameD : List (PV × PV) → List (PV × PV) → Bool
  | [], ys => (match ys with | [] => true | _ :: _ => false)
  | (a, b) :: xs, ys => (match ys with | [] => false | (c, d) :: ys => same a c && same b d && sameD xs ys)
end
mutual
theorem same_eq : ∀ {x y : PV}, same x y = true → x = y
  | .non, y, h => by cases y <;> simp_all [same]
  | .bl a, y, h => by cases y <;> simp_all [same]
  | .int i, y, h => by cases y <;> simp_all [same]
  | .str a, y, h => by cases y <;> simp_all [same, sEq_iff]
  | .tup xs, y, h => by
    cases y <;> simp only [same, Bool.false_eq_true] at h
    rw [sameL_eq h]
  | .lst xs, y, h => by
    cases y <;> simp only [same, Bool.false_eq_true] at h
    rw [sameL_eq h]
  | .dic t kvs, y, h => by
    cases y <;> simp only [same, Bool.false_eq_true, Bool.and_eq_true, beq_iff_eq] at h
    rw [h.1, sameD_eq h.2]
  | .ref n, y, h => by cases y <;> simp_all [same]
  | .scr n, y, h => by cases y <;> simp_all [same]
theorem sameL_eq : ∀ {x y : List PV}, sameL x y = true → x = y
  | [], y, h => by cases y <;> simp_all [sameL]
  | a :: x, y, h => by
    cases y with
    | nil => simp [sameL] at h
    | cons b y =>
      simp only [sameL, Bool.and_eq_true] at h
      rw [same_eq h.1, sameL_eq h.2]
theorem sameD_eq : ∀ {x y : List (PV × PV)}, sameD x y = true → x = y
  | [], y, h => by cases y <;> simp_all [sameD]
  | (a, b) :: x, y, h => by
    cases y with
    | nil => simp [sameD] at h
    | cons c y =>
      obtain ⟨c, d⟩ := c
      simp only [sameD, Bool.and_eq_true] at h
      rw [same_eq h.1.1, same_eq h.1.2, sameD_eq h.2]
end
mutual
theorem same_self : ∀ x : PV, same x x = true
  | .non => by simp [same]
  | .bl a => by simp [same]
  | .int i => by simp [same]
  | .str a => by simp [same]
  | .tup xs => by simp [same, sameL_self xs]
  | .lst xs => by simp [same, sameL_self xs]
  | .dic t kvs => by simp [same, sameD_self kvs]
  | .ref n => by simp [same]
  | .scr n => by simp [same]
theorem sameL_self : ∀ x : List PV, sameL x x = true
  | [] => by simp [sameL]
  | a :: x => by simp [sameL, same_self a, sameL_self x]
theorem sameD_self : ∀ x : List (PV × PV), sameD x x = true
  | [] => by simp [sameD]
  | (a, b) :: x => by simp [sameD, same_self a, same_self b, sameD_self x]
end


inductive Sh where
  | int | str | row (s : Sh) | two (s t : Sh) | three (s t u : Sh)
mutual
/-- values of a shape: a row is a tuple of any length; two, three: tuples of so many -/
def has : Sh → PV → Bool
  | .int, .int _ => true
  | .str, .str _ => true
  | .row s, .tup xs => hasL s xs
  | .two s t, .tup [x, y] => has s x && has t y
  | .three s t u, .tup [x, y, z] => has s x && has t y && has u z
  | _, _ => false
def hasL : Sh → List PV → Bool
  | _, [] => true
  | s, x :: xs => has s x && hasL s xs
end
mutual
def lt : PV → PV → Bool
  | .int i, y => (match y with | .int j => decide (i < j) | _ => false)
  | .str a, y => (match y with | .str b => sLt a.cps.toList b.cps.toList | _ => false)
  | .tup xs, y => (match y with | .tup ys => ltL xs ys | _ => false)
  | _, _ => false
def ltL : List PV → List PV → Bool
  | [], ys => (match ys with | [] => false | _ :: _ => true)
  | x :: xs, ys => (match ys with | [] => false | y :: ys => if same x y then ltL xs ys else lt x y)
end
mutual
/-- of kinds that go together: numbers, texts, tuples of such, place by place -/
def akin : PV → PV → Bool
  | .int _, y => (match y with | .int _ => true | _ => false)
  | .str _, y => (match y with | .str _ => true | _ => false)
  | .tup xs, y => (match y with | .tup ys => akinL xs ys | _ => false)
  | _, _ => false
def akinL : List PV → List PV → Bool
  | [], _ => true
  | x :: xs, ys => (match ys with | [] => true | y :: ys => akin x y && akinL xs ys)
end
def Sh.deep : Sh → Nat
  | .int => 0
  | .str => 0
  | .row s => s.deep + 1
  | .two s t => max s.deep t.deep + 1
  | .three s t u => max s.deep (max t.deep u.deep) + 1
def Sh.top (s : Sh) : Bool := match s with
  | .row _ => false
  | _ => Nat.ble s.deep 50
def deref (st : Store) : PV → PV
  | .ref n => (match st[n]? with | some (.lst xs) => .lst xs | some (.dic t kvs) => .dic t kvs | some (.frd t kvs) => .dic t kvs | _ => .ref n)
  | v => v
@[simp] theorem deref_int (st i) : deref st (.int i) = .int i := rfl
@[simp] theorem deref_bl (st i) : deref st (.bl i) = .bl i := rfl
@[simp] theorem deref_str (st i) : deref st (.str i) = .str i := rfl
@[simp] theorem deref_non (st) : deref st .non = .non := rfl
@[simp] theorem deref_tup (st i) : deref st (.tup i) = .tup i := rfl
@[simp] theorem deref_lst (st i) : deref st (.lst i) = .lst i := rfl
@[simp] theorem deref_scr (st i) : deref st (.scr i) = .scr i := rfl
@[simp] theorem deref_dic (st t i) : deref st (.dic t i) = .dic t i := rfl
def freeze (st : Store) : Nat → PV → Option PV
  | 0, v => if plain v then some v else none
  | n + 1, .ref k => (match st[k]? with
      | some (.lst xs) => (xs.mapM (freeze st n)).map .lst
      | some (.dic t kvs) => (kvs.mapM fun (p : PV × PV) => (freeze st n p.1).bind fun a => (freeze st n p.2).map fun b => (a, b)).map (.dic t)
      | _ => none)
  | n + 1, .tup xs => if plainL xs then some (.tup xs) else (xs.mapM (freeze st n)).map .tup
  | n + 1, .lst xs => if plainL xs then some (.lst xs) else (xs.mapM (freeze st n)).map .lst
  | _ + 1, v => if plain v then some v else none
theorem freeze_plain (st : Store) (n : Nat) {v : PV} (h : plain v = true) : freeze st n v = some v := by
  cases n with
  | zero => simp [freeze, h]
  | succ n => cases v <;> simp_all [freeze, plain]


def ixP (n : Nat) (i : Int) : Option Nat := if 0 ≤ i then (if i < n then some i.toNat else none) else if -(n : Int) ≤ i then some (i + n).toNat else none
def getL (xs : List PV) (i : Int) : Option PV := (ixP xs.length i).bind fun j => xs[j]?
def find (k : PV) : List (PV × PV) → Option PV
  | [] => none
  | (a, v) :: r => if eqv a k then some v else find k r
def put (k v : PV) (kvs : List (PV × PV)) : List (PV × PV) :=
  if kvs.any (fun p => eqv p.1 k) then kvs.map (fun p => if eqv p.1 k then (p.1, v) else p) else kvs ++ [(k, v)]
def fget (f : Str) : List (Str × PV) → Option PV
  | [] => none
  | (g, v) :: r => if sEq g f then some v else fget f r
def fput (f : Str) (v : PV) : List (Str × PV) → List (Str × PV)
  | [] => [(f, v)]
  | (g, w) :: r => if sEq g f then (g, v) :: r else (g, w) :: fput f v r
mutual
/-- a tuple that may be a key: numbers, texts, None, such tuples -/
def keyOk : Nat → PV → Bool
  | n, .tup xs => (match n with | 0 => false | n + 1 => keyOkL n xs)
  | _, .int _ => true
  | _, .str _ => true
  | _, _ => false
def keyOkL : Nat → List PV → Bool
  | _, [] => true
  | n, x :: xs => keyOk n x && keyOkL n xs
end
def keyT (t : Bool) (k : PV) : Bool := if t then (match k with | .tup _ => keyOk 8 k | _ => false) else (match k with | .int _ => true | .str _ => true | _ => false)

abbrev CS := Nat → List PV → Store → Res PV
abbrev DE := CS → Env → Store → Res PV
abbrev DEs := CS → Env → Store → Res (List PV)
inductive Flow where
  | nx | ret (v : PV) | brk | cnt
abbrev DS := CS → Env → Store → Res (Flow × Env)
abbrev DTg := CS → PV → Env → Store → Res Env
abbrev DI := CS → Env → Store → Res (List PV × Option Nat)

structure KwS where
  n : Nat
  ks : List Str
  perm : List Nat
def pick {α : Type} (perm : List Nat) (xs : List α) : List α := perm.filterMap (xs[·]?)
namespace D

def c (v : PV) : DE := fun _ _ st => .ok v st
def var (i : Nat) : DE := fun _ σ st => match σ[i]? with | some (some v) => .ok v st | _ => .bad
def nil : DEs := fun _ _ st => .ok [] st
def cons (e : DE) (es : DEs) : DEs := fun c σ st => (e c σ st).bind fun v st => (es c σ st).bind fun vs st => .ok (v :: vs) st
def tup (es : DEs) : DE := fun c σ st => (es c σ st).bind fun vs st => if vs.length ≤ 1000000 then .ok (.tup vs) st else .bad
def lst (es : DEs) : DE := fun c σ st => (es c σ st).bind fun vs st => if vs.length ≤ 1000000 then .ok (.lst vs) st else .bad
def fresh (e : DE) : DE := fun c σ st => (e c σ st).bind fun v st => match v with
  | .lst xs => .ok (.ref st.length) (st ++ [.lst xs])
  | .dic t kvs => .ok (.ref st.length) (st ++ [.dic t kvs])
  | _ => .bad
def op1 (f : PV → Option PV) (a : DE) : DE := fun c σ st => (a c σ st).bind fun x st => .of st (f (deref st x))
def op2 (f : PV → PV → Option PV) (a b : DE) : DE := fun c σ st => (a c σ st).bind fun x st => (b c σ st).bind fun y st => .of st (f (deref st x) (deref st y))
def isT : PV → Option Bool
  | .bl b => some b
  | _ => none
def and (a b : DE) : DE := fun c σ st => (a c σ st).bind fun x st => match x with | .bl true => b c σ st | .bl false => .ok (.bl false) st | _ => .bad
def or (a b : DE) : DE := fun c σ st => (a c σ st).bind fun x st => match x with | .bl true => .ok (.bl true) st | .bl false => b c σ st | _ => .bad
def not (a : DE) : DE := fun c σ st => (a c σ st).bind fun x st => match x with | .bl b => .ok (.bl (!b)) st | _ => .bad
def ite (t a b : DE) : DE := fun c σ st => (t c σ st).bind fun x st => match x with | .bl true => a c σ st | .bl false => b c σ st | _ => .bad
def chain (f g : PV → PV → Option PV) (a b d : DE) : DE := fun c σ st => (a c σ st).bind fun x st => (b c σ st).bind fun y st =>
  (Res.of st (f (deref st x) (deref st y))).bind fun z st => match z with
    | .bl true => (d c σ st).bind fun w st => .of st (g (deref st y) (deref st w))
    | .bl false => .ok (.bl false) st
    | _ => .bad
def attr (C : Nat) (o : DE) (f : Str) : DE := fun c σ st => (o c σ st).bind fun x st => match x with
  | .ref n => (match st[n]? with | some (.ins C' fs) => if C'.beq C then .of st (fget f fs) else .bad | _ => .bad)
  | _ => .bad
def call (f : Nat) (es : DEs) (dfl : List PV := []) : DE := fun c σ st => (es c σ st).bind fun vs st => c f (vs ++ dfl) st
def callk (f : Nat) (k : KwS) (es ws : DEs) (dfl : List PV := []) : DE := fun c σ st => (es c σ st).bind fun vs st => (ws c σ st).bind fun zs st => if vs.length.beq k.n && zs.length.beq k.ks.length then c f (pick k.perm (vs ++ zs ++ dfl)) st else .bad
def new (C f : Nat) (es : DEs) (dfl : List PV := []) : DE := fun c σ st => (es c σ st).bind fun vs st =>
  (c f (.ref st.length :: (vs ++ dfl)) (st ++ [.ins C []])).bind fun v st' => match v with | .non => .ok (.ref st.length) st' | _ => .bad
def meth (C f : Nat) (m : Str) (o : DE) (es : DEs) (dfl : List PV := []) : DE := fun c σ st => (o c σ st).bind fun x st => match x with
  | .ref n => (match st[n]? with
      | some (.ins C' fs) => if C'.beq C && (fget m fs).isNone then (es c σ st).bind fun vs st => c f (.ref n :: (vs ++ dfl)) st else .bad
      | _ => .bad)
  | _ => .bad
def lstAt (st : Store) : PV → Bool
  | .ref n => (match st[n]? with | some (.lst _) => true | _ => false)
  | _ => false
def append (o e : DE) : DE := fun c σ st => (o c σ st).bind fun x st => if lstAt st x then (e c σ st).bind fun v st => match x with
    | .ref n => (match st[n]? with | some (.lst xs) => if xs.length < 1000000 then .ok .non (st.set n (.lst (xs ++ [v]))) else .bad | _ => .bad)
    | _ => .bad
  else .bad
def extend (o e : DE) : DE := fun c σ st => (o c σ st).bind fun x st => if lstAt st x then (e c σ st).bind fun v st => match x with
    | .ref n => (match st[n]?, deref st v with
        | some (.lst xs), .lst ys => if xs.length + ys.length < 1000000 then .ok .non (st.set n (.lst (xs ++ ys))) else .bad
        | _, _ => .bad)
    | _ => .bad
  else .bad
def stuck : DS := fun _ _ _ => .bad

def walk (e : DE) : DI := fun c σ st => (e c σ st).bind fun x st => match x with
  | .tup xs => .ok (xs, none) st
  | .lst xs => .ok (xs, none) st
  | .scr ns => .ok (ns.map .int, none) st
  | .ref n => (match st[n]? with | some (.lst xs) => .ok (xs, some n) st | _ => .bad)
  | _ => .bad
def zipP : List PV → List PV → List PV
  | x :: xs, y :: ys => .tup [x, y] :: zipP xs ys
  | _, _ => []
def zip (a b : DE) : DI := fun c σ st => (a c σ st).bind fun x st => (b c σ st).bind fun y st => match x, y with
  | .tup xs, .tup ys => .ok (zipP xs ys, none) st
  | .lst xs, .lst ys => .ok (zipP xs ys, none) st
  | _, _ => .bad
def lzip (a b : DE) : DE := fun c σ st => (a c σ st).bind fun x st => (b c σ st).bind fun y st => match x, y with
  | .tup xs, .tup ys => .ok (.lst (zipP xs ys)) st
  | _, _ => .bad
def upP (lo : Int) : Nat → List PV
  | 0 => []
  | n + 1 => .int lo :: upP (lo + 1) n
def range1 (a : DE) : DI := fun c σ st => (a c σ st).bind fun x st => match x with
  | .int j => if -1000000 < j && j < 1000000 then .ok (upP 0 j.toNat, none) st else .bad
  | _ => .bad
def stands (n : Option Nat) (xs : List PV) (st : Store) : Bool := match n with
  | none => true
  | some n => (match st[n]? with | some (.lst ys) => sameL ys xs | _ => false)
def tests (ts : List DE) : CS → Env → Store → Res Bool := fun c σ st => match ts with
  | [] => .ok true st
  | [t] => (t c σ st).bind fun x st => match x with | .bl b => .ok b st | _ => .bad
  | _ => .bad
def lcL (tg : DTg) (ts : List DE) (e : DE) (c : CS) (σ : Env) (src : Option Nat) (all : List PV) : List PV → Store → Res (List PV)
  | [], st => if stands src all st then .ok [] st else .bad
  | x :: xs, st => if stands src all st then (tg c x σ st).bind fun σ1 st => (tests ts c σ1 st).bind fun b st =>
      if b then (e c σ1 st).bind fun y st => (lcL tg ts e c σ src all xs st).bind fun ys st => .ok (y :: ys) st
      else lcL tg ts e c σ src all xs st
    else .bad
def wipe (σ : Env) : List Nat → Env
  | [] => σ
  | v :: vs => (wipe σ vs).set v none
def lc (own : List Nat) (it : DI) (tg : DTg) (ts : List DE) (e : DE) : DE := fun c σ st => (it c σ st).bind fun p st =>
  if p.1.length ≤ 1000000 then (lcL tg ts e c (wipe σ own) p.2 p.1 p.1 st).calm.bind fun ys st => .ok (.lst ys) st else .bad
def dcL (t : Bool) (tg : DTg) (k e : DE) (c : CS) (σ : Env) : List PV → List (PV × PV) → Store → Res (List (PV × PV))
  | [], acc, st => .ok acc st
  | x :: xs, acc, st => (tg c x σ st).bind fun σ1 st => (k c σ1 st).bind fun y st => (e c σ1 st).bind fun z st =>
      if keyT t y then dcL t tg k e c σ xs (put y z acc) st else .bad
def dc (t : Bool) (own : List Nat) (it : DI) (tg : DTg) (k e : DE) : DE := fun c σ st => (it c σ st).bind fun p st =>
  if p.2.isNone && decide (p.1.length ≤ 1000000) then (dcL t tg k e c (wipe σ own) p.1 [] st).calm.bind fun kvs st => .ok (.dic t kvs) st else .bad

def pairs (t : Bool) : List PV → List (PV × PV) → Option (List (PV × PV))
  | [], acc => some acc
  | .tup [k, v] :: r, acc => if keyT t k then pairs t r (put k v acc) else none
  | _ :: _, _ => none
def dictL (t : Bool) : List (DE × DE) → List (PV × PV) → CS → Env → Store → Res (List (PV × PV))
  | [], acc, _, _, st => .ok acc st
  | (k, v) :: r, acc, c, σ, st => (k c σ st).bind fun x st => (v c σ st).bind fun y st => if keyT t x then dictL t r (put x y acc) c σ st else .bad
def dict (t : Bool) (ps : List (DE × DE)) : DE := fun c σ st => (dictL t ps [] c σ st).calm.bind fun kvs st => .ok (.dic t kvs) st

def tn (i : Nat) : DTg := fun _ v σ st => .ok (σ.set i (some v)) st
def tts (ts : List DTg) : CS → List PV → Env → Store → Res Env := fun c vs σ st => match ts, vs with
  | [], [] => .ok σ st
  | t :: ts, v :: vs => (t c v σ st).bind fun σ st => tts ts c vs σ st
  | _, _ => .bad
def tt (ts : List DTg) : DTg := fun c v σ st => match deref st v with
  | .tup xs => if xs.length.beq ts.length then tts ts c xs σ st else .bad
  | .lst xs => if xs.length.beq ts.length then tts ts c xs σ st else .bad
  | _ => .bad
def store (st : Store) (x y v : PV) : Option Store := match x with
  | .ref n => (match st[n]? with
      | some (.lst xs) => (match y with | .int i => (ixP xs.length i).map fun j => st.set n (.lst (xs.set j v)) | _ => none)
      | some (.dic t kvs) => if keyT t y && decide (kvs.length < 1000000) then some (st.set n (.dic t (put y v kvs))) else none
      | _ => none)
  | _ => none
def tsub (o i : DE) : DTg := fun c v σ st => (o c σ st).bind fun x st => (i c σ st).bind fun y st => match store st x y v with
  | some st' => .ok σ st'
  | none => .bad
def tattr (C : Nat) (o : DE) (f : Str) : DTg := fun c v σ st => (o c σ st).bind fun x st => match x with
  | .ref n => (match st[n]? with | some (.ins C' fs) => if C'.beq C && decide (fs.length < 1000) then .ok σ (st.set n (.ins C' (fput f v fs))) else .bad | _ => .bad)
  | _ => .bad

def pass : DS := fun _ σ st => .ok (.nx, σ) st
def brk : DS := fun _ σ st => .ok (.brk, σ) st
def cnt : DS := fun _ σ st => .ok (.cnt, σ) st
def seq (a b : DS) : DS := fun c σ st => (a c σ st).bind fun p st => match p.1 with
  | .nx => b c p.2 st
  | _ => .ok p st
def expr (e : DE) : DS := fun c σ st => (e c σ st).bind fun _ st => .ok (.nx, σ) st
def ret (e : DE) : DS := fun c σ st => (e c σ st).bind fun v st => .ok (.ret v, σ) st
def asg (tg : DTg) (e : DE) : DS := fun c σ st => (e c σ st).bind fun v st => (tg c v σ st).bind fun σ st => .ok (.nx, σ) st
def par (i j : Nat) (a b : DE) : DS := fun c σ st => (a c σ st).bind fun v st => (b c σ st).bind fun w st => .ok (.nx, (σ.set i (some v)).set j (some w)) st
def cond (t : DE) (a b : DS) : DS := fun c σ st => (t c σ st).bind fun x st => match x with | .bl true => a c σ st | .bl false => b c σ st | _ => .bad
def forL (tg : DTg) (body : DS) (c : CS) (src : Option Nat) (all : List PV) : List PV → Env → Store → Res (Flow × Env)
  | [], σ, st => if stands src all st then .ok (.nx, σ) st else .bad
  | x :: xs, σ, st => if stands src all st then (tg c x σ st).bind fun σ st => (body c σ st).bind fun p st => match p.1 with
      | .nx => forL tg body c src all xs p.2 st
      | .cnt => forL tg body c src all xs p.2 st
      | .brk => .ok (.nx, p.2) st
      | .ret v => .ok (.ret v, p.2) st
    else .bad
def «for» (tg : DTg) (it : DI) (body : DS) : DS := fun c σ st => (it c σ st).bind fun p st => forL tg body c p.2 p.1 p.1 σ st
end D


structure FnD where
  np : Nat
  size : Nat
  pure : Bool
  body : DS
def start (n : Nat) (vs : List PV) : Env := vs.map some ++ List.replicate (n - vs.length) none
def retOf : Flow → Option PV
  | .nx => some .non
  | .ret v => some v
  | _ => none
def runFn (d : FnD) (c : CS) (vs : List PV) (st : Store) : Res PV :=
  if vs.length.beq d.np then
    if d.pure then
      if plainL vs then
        match d.body c (start d.size vs) [] with
        | .ok p st' => Res.of st ((retOf p.1).bind (freeze st' 4))
        | .exc e _ => .exc e st
        | .bad => .bad
      else .bad
    else (d.body c (start d.size vs) st).bind fun p st' => Res.of st' (retOf p.1)
  else .bad
def callN (tbl : Nat → Option FnD) : Nat → CS
  | 0 => fun _ _ _ => .bad
  | n + 1 => fun f vs st => match tbl f with
      | some d => runFn d (callN tbl n) vs st
      | none => .bad


namespace O
def I : PV → Option Int
  | .int i => some i
  | _ => none
def small (i : Int) : Bool := -18446744073709551616 < i && i < 18446744073709551616
def add : PV → PV → Option PV
  | .int i, .int j => some (.int (i + j))
  | .tup xs, .tup ys => if xs.length + ys.length ≤ 1000000 then some (.tup (xs ++ ys)) else none
  | .lst xs, .lst ys => if xs.length + ys.length ≤ 1000000 then some (.lst (xs ++ ys)) else none
  | .str a, .str b => if a.length + b.length ≤ 1000000 then some (.str (a ++ b)) else none
  | _, _ => none
def sub : PV → PV → Option PV
  | .int i, .int j => some (.int (i - j))
  | _, _ => none
def mul : PV → PV → Option PV
  | .int i, .int j => if small i || small j then some (.int (i * j)) else none
  | .tup xs, .int k => if decide (xs ≠ []) && (decide (2 ≤ k) && (decide (k ≤ 1000) && decide (xs.length ≤ 1000))) then some (.tup (List.replicate k.toNat xs).flatten) else none
  | _, _ => none
instance (xs : List PV) : Decidable (xs ≠ []) := match xs with
  | [] => isFalse fun h => h rfl
  | _ :: _ => isTrue fun h => nomatch h
def fdiv : PV → PV → Option PV
  | .int i, .int j => if decide (0 < j) && decide (j < 1073741824) then some (.int (i / j)) else none
  | _, _ => none
def mod : PV → PV → Option PV
  | .int i, .int j => if decide (0 < j) then some (.int (i % j)) else none
  | _, _ => none
def pow : PV → PV → Option PV
  | .int i, .int j => if decide (0 ≤ j) && (decide (j ≤ 1000) && small i) then some (.int (i ^ j.toNat)) else none
  | _, _ => none
def neg : PV → Option PV
  | .int i => some (.int (-i))
  | _ => none
def lt : PV → PV → Option PV
  | .int i, .int j => some (.bl (decide (i < j)))
  | .tup xs, .tup ys => if (flatL 59 xs && flatL 59 ys) && akinL xs ys then some (.bl (ltL xs ys)) else none
  | _, _ => none
def le : PV → PV → Option PV
  | .int i, .int j => some (.bl (decide (i ≤ j)))
  | .tup xs, .tup ys => if (flatL 59 xs && flatL 59 ys) && akinL ys xs then some (.bl (!ltL ys xs)) else none
  | _, _ => none
def gt : PV → PV → Option PV
  | .int i, .int j => some (.bl (decide (j < i)))
  | _, _ => none
def eq (x y : PV) : Option PV := (eqP x y).map .bl
def ne (x y : PV) : Option PV := (eqP x y).map fun b => .bl (!b)
def isB : PV → PV → Option PV
  | .bl a, .bl b => some (.bl (a == b))
  | _, _ => none
def inB (x : PV) : PV → Option Bool
  | .tup xs => if flat 59 x && flatL 59 xs then some (xs.any fun y => eqv y x) else none
  | .lst xs => if flat 59 x && flatL 59 xs then some (xs.any fun y => eqv y x) else none
  | .dic t kvs => if keyT t x then some (find x kvs).isSome else none
  | _ => none
def isBot (x y : PV) : Option PV := match isB x y with
  | some (.bl b) => some (.bl (!b))
  | _ => none
def «in» (x y : PV) : Option PV := (inB x y).map .bl
def item : PV → PV → Option PV
  | .tup xs, .int i => getL xs i
  | .lst xs, .int i => getL xs i
  | .scr ns, .int i => getL (ns.map .int) i
  | .dic t kvs, k => if keyT t k then find k kvs else none
  | _, _ => none
def sIx (n : Nat) (dflt : Nat) : Option Int → Nat
  | none => dflt
  | some i => if i < 0 then (i + (n : Int)).toNat else min i.toNat n
def cut (xs : List PV) (lo hi : Option Int) : List PV := (xs.drop (sIx xs.length 0 lo)).take (sIx xs.length xs.length hi - sIx xs.length 0 lo)
def slice (x : PV) (lo hi : Option Int) : Option PV := match x with
  | .tup xs => some (.tup (cut xs lo hi))
  | .lst xs => some (.lst (cut xs lo hi))
  | .scr ns => some (.lst (cut (ns.map .int) lo hi))
  | _ => none
def len : PV → Option PV
  | .tup xs => some (.int xs.length)
  | .lst xs => some (.int xs.length)
  | .scr ns => some (.int ns.length)
  | .dic _ kvs => some (.int kvs.length)
  | _ => none
def isTup : PV → Option PV
  | .tup _ => some (.bl true)
  | .dic true _ => none
  | .scr _ => none
  | .ref _ => none
  | _ => some (.bl false)
def isInt : PV → Option PV
  | .int _ => some (.bl true)
  | .bl _ => some (.bl true)
  | .dic true _ => none
  | .scr _ => none
  | .ref _ => none
  | _ => some (.bl false)
def isBool : PV → Option PV
  | .bl _ => some (.bl true)
  | .dic true _ => none
  | .scr _ => none
  | .ref _ => none
  | _ => some (.bl false)
def bools : List PV → Option (List Bool)
  | [] => some []
  | .bl b :: r => (bools r).map (b :: ·)
  | _ :: _ => none
def intsP : List PV → Option (List Int)
  | [] => some []
  | .int b :: r => (intsP r).map (b :: ·)
  | _ :: _ => none
def all : PV → Option PV
  | .lst xs => (bools xs).map fun bs => .bl (bs.all id)
  | _ => none
def sum : PV → Option PV
  | .lst xs => (intsP xs).map fun is => .int is.sum
  | _ => none
def max2 : PV → PV → Option PV
  | .int i, .int j => some (.int (if j > i then j else i))
  | _, _ => none
def min2 : PV → PV → Option PV
  | .int i, .int j => some (.int (if j < i then j else i))
  | _, _ => none
def tuple : PV → Option PV
  | .lst xs => some (.tup xs)
  | .tup xs => some (.tup xs)
  | _ => none
def list : PV → Option PV
  | .lst xs => some (.lst xs)
  | .tup xs => some (.lst xs)
  | _ => none
def dictOf (t : Bool) : PV → Option PV
  | .lst xs => (D.pairs t xs []).map (.dic t)
  | _ => none
end O
namespace D
def part (c : CS) (σ : Env) (d : Option DE) (k : Option Int → Store → Res PV) (st : Store) : Res PV := match d with
  | none => k none st
  | some d => (d c σ st).bind fun v st => match v with | .int i => k (some i) st | _ => .bad
def slice (e : DE) (lo hi : Option DE) : DE := fun c σ st => (e c σ st).bind fun x st =>
  part c σ lo (fun l st => part c σ hi (fun h st => .of st (O.slice (deref st x) l h)) st) st
end D
end Dn


namespace L2
open PySem PySem.Spec PyProof.Rows
def NoG (A : Around) : Prop := A.guards = some []
theorem NoG.deeper {A : Around} {env : Env} (g : NoG A) : NoG (A.deeper env) := g
theorem NoG.make {A : Around} (g : NoG A) (C : Addr) (us : List Value) (kw : List (Str × Value)) : NoG (A.under (.builtin "type.__call__" ⟨.ref C :: us, kw⟩)) := by
  unfold NoG at *
  simpa [Around.under, Code.guards, Code.isGuard, pushGuards, guardIds] using g
structure FnG (prog : Program) (wo : World) (fr : PySem.W.Frag) (mg : Str → Option Value) (bs : Heap) (ways : CXT) (lv : Nat) (at_ : Addr) (fd : FuncData) (names : List Str) (prom : Sp) : Prop where
  len : ∀ xs h q x, prom xs h q x → xs.length = names.length
  run : ∀ (ar : Around) (out : List Env) (s0 : Shared) (h : Hp) (given : Args) (bound : List Value) (xs : List V) (q : VK) (x : XK), NoG ar → Room lv ar → Env0 prog wo fr mg bs ar out s0 h → BindsTo s0 fd given (names.zip bound) → Vals xs bound → prom xs h q x →
    codeAny (model prog wo) ar (.call (.ref at_) given) (CR ways out prog wo h s0 q x) s0
section
variable {X : Cx} {ways : CXT} {lv : Nat} {fa C : Addr} {fd : FuncData} {names : List Str} {prom : Sp} {dv : List V} {dvl : List Value} {x : XK} {nm m : Str} {p pos apos kpos : Pos} {e o : Expr} {es : List Expr} {ta : TE} {t : TA}
variable {pins : List (Addr × Obj)} {σ : St} {H : Hp} {s : Shared} {Q : VK} {us : List Value} {vs : List V}
def EndG (X : Cx) (pins : List (Addr × Obj)) (σ : St) (Q : VK) (r : Result) (s' : Shared) : Prop := match r with
    | .ok (.ret u) => EP X pins σ Q u s'
    | .ok _ => False
    | .error b => X.xe b s'
theorem end_g {r : Result} {s' : Shared} (pa : Passes ways X x) (I : Inv X pins σ H s) (z : CR ways X.stack X.prog X.w H s Q x r s') : EndG X pins σ Q r s' := by
  match r, z with
  | .ok (.ret u), z => exact I.after z
  | .error b, z => exact pa pins σ H s b s' I z
theorem run_g (F : FnG X.prog X.w X.K X.mg X.base ways lv fa fd names prom) (ng : NoG X.A) (ro : Room lv X.A) (bi : Binds X.K fd names dvl) (dd : Vals dv dvl) (pa : Passes ways X x)
    (I : Inv X pins σ H s) (rv : Vals vs us) (pr : prom (vs ++ dv) H Q x) : wpAny (model X.prog X.w) X.A (call (.ref fa) us) (EP X pins σ Q) X.xe s := by
  have both := rv.append dd
  have eq : (us ++ dvl).length = names.length := by
    have := F.len _ _ _ _ pr
    rw [both.length] at this
    exact this
  refine wpAny_call (codeAny_mono (F.run _ _ _ _ ⟨us, []⟩ _ _ _ _ ng ro I.env0 (bi s us I.kIn eq) both pr) fun r s' z => ?_)
  have en := end_g pa I z
  match r, en with
  | .ok (.ret u), en => exact en
  | .ok .next, en => exact False.elim en
  | .ok .brk, en => exact False.elim en
  | .ok .cont, en => exact False.elim en
  | .error b, en => exact en
theorem g_call (F : FnG X.prog X.w X.K X.mg X.base ways lv fa fd names prom) (ng : NoG X.A) (ro : Room lv X.A) (gl : Gl X nm) (at_ : X.mg nm = some (.ref fa)) (ke : PySem.W.keepIn X.K (.ref fa) = true) (bi : Binds X.K fd names dvl) (dd : Vals dv dvl) (pa : Passes ways X x)
    (ar : PA X (e :: es) t) (nd : (nm == ("__debug__" : Str)) = false) (st : starEach (e :: es) X.env = (false, eval e X.env) :: starEach es X.env) (pl : (backTo pos (starEach es X.env)).any (·.1) = false) :
    PE X (.Call (.Name nm p) (e :: es) [] pos) (tCall prom dv x t) :=
  ⟨fun pins s σ H Q I z => wpAny_Call_Name_kw (ld_glob I gl at_ (PySem.W.callWith_K (h₀ := X.base) I.ok.mod.kin ke (thn (ar.run pos pins s σ H _ I z) fun us s1 ⟨vs, H1, J, rv, pr⟩ => ⟨J.kIn, run_g F ng ro bi dd pa J rv pr⟩) st pl) nd)⟩
theorem g_call0 (F : FnG X.prog X.w X.K X.mg X.base ways lv fa fd names prom) (ng : NoG X.A) (ro : Room lv X.A) (gl : Gl X nm) (at_ : X.mg nm = some (.ref fa)) (ke : PySem.W.keepIn X.K (.ref fa) = true) (bi : Binds X.K fd names dvl) (dd : Vals dv dvl) (pa : Passes ways X x)
    (nd : (nm == ("__debug__" : Str)) = false) : PE X (.Call (.Name nm p) [] [] pos) (tCall prom dv x tNil) :=
  ⟨fun pins s σ H Q I z => wpAny_Call_Name_kw (ld_glob I gl at_ (PySem.W.callWith_K0 I.kIn ke (run_g (us := []) F ng ro bi dd pa I .nil z)) nd)⟩
theorem g_meth {pl : Sem Bool} (ob : PE X o ta) (cl : Cls X.K C) (mt : Meth X.K C m fa) (F : FnG X.prog X.w X.K X.mg X.base ways lv fa fd names prom) (ng : NoG X.A) (ro : Room lv X.A) (bi : Binds X.K fd names dvl) (dd : Vals dv dvl) (pa : Passes ways X x) (ar : PA X (e :: es) t)
    (st : starEach (e :: es) X.env = (false, eval e X.env) :: starEach es X.env) (pn : (backTo pos (starEach es X.env)).any (·.1) = false)
    (ev : eval (.Call (.Attribute o m apos) (e :: es) [] pos) X.env = (do let ov ← eval o X.env; standAt apos.atName; let (f, first) ← holding [ov] (getMethod ov m pl); callWith pos f first (backTo pos (starEach (e :: es) X.env)) (backToKw pos (keywordEach [] X.env)))) :
    PE X (.Call (.Attribute o m apos) (e :: es) [] pos) (tMeth C m prom dv x ta t) := by
  refine ⟨fun pins s σ H Q I z => PySem.W.methodCall_KW (pl := pl) (thn (ob.run pins s σ H _ I z) fun u s1 ⟨y, H1, J, ry, a, dx, fs, ey, ha, hl, z1⟩ => ?_) ev⟩
  subst ey
  have eu : u = Value.ref a := ry
  subst eu
  exact getmeth_ok J ha cl mt hl (PySem.W.callWith_K (first := [.ref a]) (h₀ := X.base) I.ok.mod.kin mt.kp (thn (ar.run pos pins s1 σ H1 _ J z1) fun us s2 ⟨vs, H2, J2, rv, pr⟩ => ⟨J2.kIn, run_g (us := .ref a :: us) (vs := .ref a :: vs) F ng ro bi dd pa J2 (.cons rfl rv) pr⟩) st pn)
theorem make_g (mk : Mk X.K C fa) (F : FnG X.prog X.w X.K X.mg X.base ways lv fa fd names prom) (ng : NoG X.A) (ro : Room (lv + 1) X.A) (bi : Binds X.K fd names dvl) (dd : Vals dv dvl) (pa : Passes ways X x) (I : Inv X pins σ H s) (rv : Vals vs us)
    (pr : ∀ y dy, H y = none → H dy = none → dy ≠ y → prom (.ref y :: (vs ++ dv)) (upd (upd H dy (.own y)) y (.ins C dy [])) (fun v H2 => v = .non ∧ Q (.ref y) H2) x) : wpAny (model X.prog X.w) X.A (call (.ref C) us) (EP X pins σ Q) X.xe s := by
  have z := pr _ _ (I.hok.fresh (Nat.le_succ s.heap.objs.size)) (I.hok.fresh (Nat.le_refl s.heap.objs.size)) (Nat.ne_of_lt (Nat.lt_succ_self _))
  have J := Inv.made (C := C) I
  have both : Vals (V.ref (s.heap.objs.size + 1) :: (vs ++ dv)) (Value.ref (s.heap.objs.size + 1) :: (us ++ dvl)) := .cons rfl (rv.append dd)
  have eq : (Value.ref (s.heap.objs.size + 1) :: us ++ dvl).length = names.length := (both.length.symm.trans (F.len _ _ _ _ z))
  refine wpAny_call (make_map (f := fa) I.kIn mk.makes mk.init (beq_iff_eq.mp mk.fn) (codeAny_mono (F.run _ X.stack _ _ ⟨Value.ref (s.heap.objs.size + 1) :: us, []⟩ _ _ _ x (ng.make C us []) (ro.make C us []) (J.env0.make C us []) (bi _ _ J.kIn eq) both z) fun r s' z' => ?_))
  have en := end_g pa J z'
  match r, en with
  | .ok (.ret u), en =>
    obtain ⟨v, H', J3, rw', ev, q3⟩ := en
    subst ev
    exact ⟨rw', V.ref (s.heap.objs.size + 1), H', J3, rfl, q3⟩
  | .ok .next, en => exact False.elim en
  | .ok .brk, en => exact False.elim en
  | .ok .cont, en => exact False.elim en
  | .error b, en => exact en
theorem g_make (mk : Mk X.K C fa) (F : FnG X.prog X.w X.K X.mg X.base ways lv fa fd names prom) (ng : NoG X.A) (ro : Room (lv + 1) X.A) (gl : Gl X nm) (at_ : X.mg nm = some (.ref C)) (bi : Binds X.K fd names dvl) (dd : Vals dv dvl) (pa : Passes ways X x)
    (ar : PA X (e :: es) t) (nd : (nm == ("__debug__" : Str)) = false) (st : starEach (e :: es) X.env = (false, eval e X.env) :: starEach es X.env) (pl : (backTo pos (starEach es X.env)).any (·.1) = false) :
    PE X (.Call (.Name nm p) (e :: es) [] pos) (tMake C prom dv x t) :=
  ⟨fun pins s σ H Q I z => wpAny_Call_Name_kw (ld_glob I gl at_ (PySem.W.callWith_K (h₀ := X.base) I.ok.mod.kin mk.kp (thn (ar.run pos pins s σ H _ I z) fun us s1 ⟨vs, H1, J, rv, pr⟩ => ⟨J.kIn, make_g mk F ng ro bi dd pa J rv pr⟩) st pl) nd)⟩

variable {ks : List Str} {kws : List Keyword} {tk : TA} {g : List Value → List Value → List Value} {gV : List V → List V → List V} {ws : List Value} {zs : List V}
end

theorem g_fn {ways : CXT} {prog : Program} {wo : World} {fr : PySem.W.Frag} {mg : Str → Option Value} {bs : Heap} {lv : Nat} {fa : Addr} {nm qual : Str} {params : Arguments} {body : List Stmt} {scope : Scope} {dV kV doc pm cdv ct oc : Value} {an od : Option Addr}
    {osl : Array (Option Value)} {N names : List Str} {prom : Sp} (look : fr.lookup fa = some ⟨oc, od, .func (PySem.W.fnOf nm qual params body scope dV kV doc pm an cdv ct), osl⟩) (co : PySem.W.codeIn fr cdv qual = true) (S : FnScope N names scope)
    (len : ∀ xs h q x, prom xs h q x → xs.length = names.length)
    (walk : ∀ (ar : Around) (out : List Env) (s0 : Shared) (h : Hp) (xs : List V) (q : VK) (x : XK), NoG (ar.deeper (envOfC qual scope s0.heap.objs.size fa cdv)) → Room lv (ar.deeper (envOfC qual scope s0.heap.objs.size fa cdv)) → prom xs h q x →
      ∃ t, PSs (cxOf ways prog wo fr mg bs N qual scope fa cdv ar out s0 h x) body t ∧ t { nx := fun _ H' => q .non H', rt := q } (start N xs) h) :
    FnG prog wo fr mg bs ways (lv + 1) fa (PySem.W.fnOf nm qual params body scope dV kV doc pm an cdv ct) names prom := by
  refine ⟨len, fun ar out s0 h given bound xs q x ng ro e0 bi rv pr => ?_⟩
  have el := len _ _ _ _ pr
  have kin : fr.In s0.heap := e0.mod.kin.keeps fun b o z => (e0.bs b o z).1
  have nol : s0.heap.NoLimit := e0.mod.nolimit.keeps fun b o z => (e0.bs b o z).1
  have kinds : ∀ y ∈ names.zip bound, scope.names.lookup y.1 = some .local ∨ (scope.names.lookup y.1 = some .cell ∧ ((cellsFrom (s0.heap.objs.size + 1) scope.names []).lookup y.1).isSome = true) := fun y hy => by
    rcases S.par y.1 (List.of_mem_zip hy).1 with z | z
    · exact .inl z
    · exact .inr ⟨z, PySem.W.cellsFrom_some _ _ _ (.inl z)⟩
  refine codeAny_call_function ro.depth (kin _ _ look) rfl S.co S.gen rfl (PySem.W.codeRec_of kin co) (bi _ _ _ _ (wpAny_newFunctionEnv_cells S.kind kinds fun env he s1 ic => ?_))
  subst he
  refine ⟨nol.keeps ic.toInCall.keep, codeAny_func ?_⟩
  obtain ⟨t, ps, hq⟩ := walk ar out s0 h xs q x ng.deeper (ro.deeper _) pr
  have I : Inv (cxOf ways prog wo fr mg bs N qual scope fa cdv ar out s0 h x) [] (start N xs) h s1 := inv_start S ro.hd e0 el rv ic
  refine wpAny_mono (ps.run [] s1 (start N xs) h _ I hq) (fun fl s' z => ?_) fun b s' z => z
  match fl, z with
  | .ret u, ⟨v, σ', H', J, ru, q'⟩ => exact ⟨v, H', J.os, J.bare, J.base, J.hok, ru, q'⟩
  | .next, ⟨σ', H', J, q'⟩ => exact ⟨.non, H', J.os, J.bare, J.base, J.hok, rfl, q'⟩
  | .brk, ⟨_, _, _, q'⟩ => exact False.elim q'
  | .cont, ⟨_, _, _, q'⟩ => exact False.elim q'
def CdAt (K : PySem.W.Frag) (fa : Addr) (qual : Str) (cdv : Value) : Prop := ∃ oc od fd osl, K.lookup fa = some ⟨oc, od, .func fd, osl⟩ ∧ fd.code = cdv ∧ fd.qualname = qual ∧ PySem.W.codeIn K cdv qual = true
theorem FunD.g {ways : CXT} {P : Program} {w : World} {K : PySem.W.Frag} {mg : Str → Option Value} {base : Heap} {nm qual : Str} {params : Arguments} {body : List Stmt} {scope : Scope} {dvs : List V} {kws : List (Str × V)} {fa : Addr} {fd : FuncData} {N names : List Str} {lv : Nat} {prom : Sp}
    (F : FunD K nm qual params body scope dvs kws fa fd) (S : FnScope N names scope) (len : ∀ xs h q x, prom xs h q x → xs.length = names.length)
    (walk : ∀ (cdv : Value) (_ : CdAt K fa qual cdv) (ar : Around) (out : List Env) (s0 : Shared) (h : Hp) (xs : List V) (q : VK) (x : XK), NoG (ar.deeper (envOfC qual scope s0.heap.objs.size fa cdv)) → Room lv (ar.deeper (envOfC qual scope s0.heap.objs.size fa cdv)) → prom xs h q x →
      ∃ t, PSs (cxOf ways P w K mg base N qual scope fa cdv ar out s0 h x) body t ∧ t { nx := fun _ H' => q .non H', rt := q } (start N xs) h) : FnG P w K mg base ways (lv + 1) fa fd names prom := by
  obtain ⟨oc, od, dV, kV, doc, pm, an, cdv, ct, osl, rfl, look, co, _, _⟩ := F.ex
  exact g_fn look co S len (walk cdv ⟨_, _, _, _, look, rfl, rfl, co⟩)
theorem callerNoG : NoG callerA := rfl

end L2


namespace L2
open PySem PySem.Spec PyProof.Rows
def exz (a C : Addr) (d : Option Addr) : HO := .ext fun h => ∃ (oe : Obj) (vs : Array Value), h.get? a = some oe ∧ Zc (.ref C) d oe ∧ oe.data = .fields vs
theorem exz_ok {P : Program} {w : World} {H : Hp} {h : Heap} {a C : Addr} {d : Option Addr} {oe : Obj} {vs : Array Value} (e : h.get? a = some oe) (z : Zc (.ref C) d oe) (hd : oe.data = .fields vs) : ObjOk P w H h a (exz a C d) :=
  ⟨⟨oe, vs, e, z, hd⟩, ⟨oe, e⟩, fun h1 h2 ⟨o1, v1, e1, z1, d1⟩ k => ⟨o1, v1, k _ e1, z1, d1⟩⟩
theorem exz_at {P : Program} {w : World} {H : Hp} {h : Heap} {a C : Addr} {d : Option Addr} (x : HOk P w H h) (e : H a = some (exz a C d)) : ∃ (oe : Obj) (vs : Array Value), h.get? a = some oe ∧ Zc (.ref C) d oe ∧ oe.data = .fields vs :=
  (show ObjOk P w H h a (exz a C d) from x a _ e).1
end L2


namespace Dn
open PySem L2

structure Cn where
  P : Program
  w : World
  K : PySem.W.Frag
  cls : Nat → Addr

def toKey : PV → Option Key
  | .int i => some (.inl i)
  | .str x => some (.inr x)
  | _ => none
mutual
def toNK : PV → Option NestedKey
  | .int i => some (.num i)
  | .str x => some (.text x)
  | .tup xs => (toNKs xs).map .tup
  | _ => none
def toNKs : List PV → Option (List NestedKey)
  | [] => some []
  | x :: xs => (toNK x).bind fun k => (toNKs xs).map (k :: ·)
end

def dPhi (κ : Cn) (d : Addr) (xs : List (NestedKey × Addr × V)) (h : Heap) : Prop :=
  (d == sysModules) = false ∧ xs.length ≤ sizeLine ∧ (∀ x ∈ xs, x.1.depth ≤ 8) ∧ ∃ ys : List (NestedKey × Addr × Value),
    Paired (fun (x : NestedKey × Addr × V) (y : NestedKey × Addr × Value) => x.1 = y.1 ∧ x.2.1 = y.2.1 ∧ RelV x.2.2 y.2.2) xs ys ∧
    ∃ o es ep, h.get? d = some o ∧ o.ExactDict ∧ o.data = .dict es ep ∧ es.toList = ys.map (entryOfKey (nestedKind κ.P κ.w)) ∧ (ys.map (·.1)).Nodup
abbrev dTO (κ : Cn) (d : Addr) (xs : List (NestedKey × Addr × V)) : HO := .ext (dPhi κ d xs)



def lamNames : List Str := ["law", "_law_words", "_law_words_of", "_law_right", "_law_arms_right", "_law_standings_right", "_law_things_right", "_law_back_right", "_law_falls_right", "_law_put_right", "_law_out_right"]
def tabK1 (K : PySem.W.Frag) (o : Obj) : Option (Addr × Addr × Str) := match o.data with
  | .func fd => (match fd.code with
    | .ref cc => if lamN fd.qualname && (PySem.W.codeHdIn K cc (He.tabOf K cc) && (K.lookup (He.tabOf K cc)).isNone) then some (cc, He.tabOf K cc, fd.qualname ++ ".<locals>." ++ "<lambda>") else none
    | _ => none)
  | _ => none
where
  lamN (q : Str) : Bool := lamNames.any fun x => decide (x = q)
def tabsK (K : PySem.W.Frag) : List (Addr × Addr × Str) := K.filterMap fun p => tabK1 K p.2
def TabsOk (K : PySem.W.Frag) (H : Hp) : Prop := ∀ t ∈ tabsK K, LamX.TabS H t.2.1 t.2.2
def NoTb (o : HO) : Prop := (∀ ps, o ≠ .tbl ps) ∧ ∀ c q, o ≠ LamX.CodeO c q
theorem notb_lst {xs} : NoTb (.lst xs) := ⟨fun _ z => HO.noConfusion z, fun c q z => by unfold LamX.CodeO at z; cases z⟩
theorem notb_dK {xs} : NoTb (.dK xs) := ⟨fun _ z => HO.noConfusion z, fun c q z => by unfold LamX.CodeO at z; cases z⟩
theorem notb_frz {o u} : NoTb (.frz o u) := ⟨fun _ z => (nomatch z), fun c q z => by unfold LamX.CodeO at z; cases z⟩
theorem notb_ins {c d f} : NoTb (.ins c d f) := ⟨fun _ z => (nomatch z), fun c q z => by unfold LamX.CodeO at z; cases z⟩
theorem codeO_heap (c : Addr) (q : Str) : ∃ (h : Heap) (oc : Obj) (vs : Array Value), h.get? c = some oc ∧ oc.data = .fields vs ∧ vs[1]? = some (.str q 0) ∧ ∀ d o, h.get? d = some o → ∃ vs, o.data = .fields vs := by
  refine ⟨(({ objs := Array.replicate c { cls := .none, data := .fields #[] } } : Heap)).push { cls := .none, data := .fields #[.none, .str q 0] }, { cls := .none, data := .fields #[.none, .str q 0] }, #[.none, .str q 0], ?_, rfl, rfl, fun d o e => ?_⟩
  · have := Heap.get?_push_size (({ objs := Array.replicate c { cls := .none, data := .fields #[] } } : Heap)) (o := { cls := .none, data := .fields #[.none, .str q 0] }) rfl
    simpa using this
  · rcases Heap.get?_push_cases e with ⟨_, rfl⟩ | e
    · exact ⟨_, rfl⟩
    · have e1 := (Heap.get?_some_iff.mp e).1
      have e1 : (Array.replicate c ({ cls := .none, data := .fields #[] } : Obj))[d]? = some o := e1
      rw [Array.getElem?_replicate] at e1
      split at e1
      · cases e1; exact ⟨_, rfl⟩
      · cases e1
theorem codeO_none (c : Addr) (q : Str) : ∃ (h : Heap) (oc : Obj) (vs : Array Value), h.get? c = some oc ∧ oc.data = .fields vs ∧ vs[1]? = some (.str q 0) ∧ ∀ d o, h.get? d = some o → o.cls = .none := by
  refine ⟨(({ objs := Array.replicate c { cls := .none, data := .fields #[] } } : Heap)).push { cls := .none, data := .fields #[.none, .str q 0] }, { cls := .none, data := .fields #[.none, .str q 0] }, #[.none, .str q 0], ?_, rfl, rfl, fun d o e => ?_⟩
  · have := Heap.get?_push_size (({ objs := Array.replicate c { cls := .none, data := .fields #[] } } : Heap)) (o := { cls := .none, data := .fields #[.none, .str q 0] }) rfl
    simpa using this
  · rcases Heap.get?_push_cases e with ⟨_, rfl⟩ | e
    · exact rfl
    · have e1 := (Heap.get?_some_iff.mp e).1
      have e1 : (Array.replicate c ({ cls := .none, data := .fields #[] } : Obj))[d]? = some o := e1
      rw [Array.getElem?_replicate] at e1
      split at e1
      · cases e1; exact rfl
      · cases e1
theorem notb_exz {a C : Addr} {d : Option Addr} : NoTb (exz a C d) := by
  refine ⟨fun _ z => (nomatch z), fun c q z => ?_⟩
  unfold LamX.CodeO at z
  have z := HO.ext.inj z
  obtain ⟨h, oc, vs, h1, h2, h3, h4⟩ := codeO_none c q
  have hc : (fun h : Heap => ∃ (oc : Obj) (vs : Array Value) (t : Tok), h.get? c = some oc ∧ oc.data = .fields vs ∧ vs[1]? = some (.str q t)) h := ⟨oc, vs, 0, h1, h2, h3⟩
  rw [← z] at hc
  obtain ⟨oe, _, e1, ⟨e2, _⟩, _⟩ := hc
  have := h4 _ _ e1
  rw [e2] at this
  cases this
theorem notb_dTO {κ : Cn} {d : Addr} {xs : List (NestedKey × Addr × V)} : NoTb (dTO κ d xs) := by
  refine ⟨fun _ z => (nomatch z), fun c q z => ?_⟩
  unfold LamX.CodeO at z
  have z := HO.ext.inj z
  obtain ⟨h, oc, vs, h1, h2, h3, h4⟩ := codeO_heap c q
  have hc : (fun h : Heap => ∃ (oc : Obj) (vs : Array Value) (t : Tok), h.get? c = some oc ∧ oc.data = .fields vs ∧ vs[1]? = some (.str q t)) h := ⟨oc, vs, 0, h1, h2, h3⟩
  rw [← z] at hc
  obtain ⟨_, _, _, ys, _, o, es, ep, e1, _, e3, _⟩ := hc
  obtain ⟨vs, e4⟩ := h4 _ _ e1
  rw [e3] at e4
  cases e4
section
variable {K : PySem.W.Frag} {H : Hp} {a : Addr} {o o' : HO}
theorem TabsOk.ext {H' : Hp} (t : TabsOk K H) (e : ∀ b o, H b = some o → H' b = some o) : TabsOk K H' := fun p hp => (t p hp).ext e
theorem TabsOk.new (t : TabsOk K H) (h : H a = none) : TabsOk K (upd H a o) := t.ext fun b u e => by rw [upd_ne (ne_of_none e h)]; exact e
theorem TabsOk.turn (t : TabsOk K H) {H' : Hp} (h : H a = some o) (n : NoTb o) (e : ∀ b, b ≠ a → H' b = H b) : TabsOk K H' := fun p hp => by
  obtain ⟨ps, h1, h2, h3⟩ := t p hp
  refine ⟨ps, by rw [e _ fun z => n.1 ps (by rw [z, h] at h1; exact Option.some.inj h1)]; exact h1, h2, fun pos cv hc => ?_⟩
  obtain ⟨c, e1, e2⟩ := h3 pos cv hc
  exact ⟨c, e1, by rw [e _ fun z => n.2 c p.2.2 (by rw [z, h] at e2; rw [z]; exact Option.some.inj e2)]; exact e2⟩
end

def SqD (K : PySem.W.Frag) (H : Hp) (a : Addr) (xs : List V) : Prop :=
  (∃ o : Obj, o.dict = none ∧ H a = some (.frz o (.tup xs))) ∨
    ∃ (o : Obj) (its : Array Value) (n : Nat), K.lookup a = some o ∧ o.cls = .type "tuple" ∧ o.data = .seq its n ∧ its.size ≤ sizeLine ∧ Vals xs its.toList ∧ o.dict = none
theorem SqD.sqT {K : PySem.W.Frag} {H : Hp} {a : Addr} {xs : List V} (h : SqD K H a xs) : SqT K H a xs := by
  rcases h with ⟨o, _, h⟩ | ⟨o, its, n, h1, h2, h3, h4, h5, _⟩
  · exact .inl (.inr ⟨o, h⟩)
  · exact .inr ⟨o, its, n, h1, h2, h3, h4, h5⟩
theorem SqD.base {K : PySem.W.Frag} {H : Hp} {a : Addr} {xs : List V} (h : SqD K (fun _ => none) a xs) : SqD K H a xs := by
  rcases h with ⟨o, _, h⟩ | h
  · cases h
  · exact .inr h
theorem sqD_mono {K : PySem.W.Frag} {H H' : Hp} (h2 : ∀ a o u, H a = some (.frz o u) → H' a = some (.frz o u)) {a : Addr} {xs : List V} (h : SqD K H a xs) : SqD K H' a xs := by
  rcases h with ⟨o, e, h⟩ | h
  · exact .inl ⟨o, e, h2 a o _ h⟩
  · exact .inr h
mutual
/-- v is the value p: F the addresses that may change, ρ where the store's things stand -/
def RV (κ : Cn) (F : Addr → Prop) (ρ : List Addr) (H : Hp) : PV → V → Prop
  | .non, v => v = .non
  | .bl b, v => v = .bl b
  | .int i, v => v = .int i
  | .str x, v => v = .str x
  | .tup ps, v => ∃ a xs, v = .ref a ∧ SqD κ.K H a xs ∧ RVs κ F ρ H ps xs
  | .lst ps, v => ∃ a xs, v = .ref a ∧ H a = some (.lst xs) ∧ ¬ F a ∧ RVs κ F ρ H ps xs
  | .scr ns, v => ∃ a, v = .ref a ∧ ((Rd H a (.lst (ns.map V.int)) ∧ ¬ F a) ∨ SqL κ.K (fun _ => none) a (ns.map V.int))
  | .dic false kvs, v => ∃ a es, v = .ref a ∧ H a = some (.dK es) ∧ ¬ F a ∧ RKs κ F ρ H kvs es
  | .dic true kvs, v => ∃ a es, v = .ref a ∧ H a = some (dTO κ a es) ∧ ¬ F a ∧ RTs κ F ρ H kvs es
  | .ref n, v => ∃ a, v = .ref a ∧ ρ[n]? = some a
def RVs (κ : Cn) (F : Addr → Prop) (ρ : List Addr) (H : Hp) : List PV → List V → Prop
  | [], vs => vs = []
  | p :: ps, vs => ∃ v r, vs = v :: r ∧ RV κ F ρ H p v ∧ RVs κ F ρ H ps r
def RKs (κ : Cn) (F : Addr → Prop) (ρ : List Addr) (H : Hp) : List (PV × PV) → List (Key × V) → Prop
  | [], vs => vs = []
  | (k, p) :: ps, vs => ∃ kk v r, vs = (kk, v) :: r ∧ toKey k = some kk ∧ RV κ F ρ H p v ∧ RKs κ F ρ H ps r
def RTs (κ : Cn) (F : Addr → Prop) (ρ : List Addr) (H : Hp) : List (PV × PV) → List (NestedKey × Addr × V) → Prop
  | [], vs => vs = []
  | (k, p) :: ps, vs => ∃ kk a v r, vs = (kk, a, v) :: r ∧ toNK k = some kk ∧ RV κ F ρ H k (.ref a) ∧ RV κ F ρ H p v ∧ RTs κ F ρ H ps r
end
def RFs (κ : Cn) (F : Addr → Prop) (ρ : List Addr) (H : Hp) : List (Str × PV) → List (Str × V) → Prop
  | [], vs => vs = []
  | (k, p) :: ps, vs => ∃ v r, vs = (k, v) :: r ∧ RV κ F ρ H p v ∧ RFs κ F ρ H ps r
def RO (κ : Cn) (F : Addr → Prop) (ρ : List Addr) (H : Hp) : PO → Addr → Prop
  | .lst ps, a => ∃ xs, H a = some (.lst xs) ∧ RVs κ F ρ H ps xs
  | .dic false kvs, a => ∃ es, H a = some (.dK es) ∧ RKs κ F ρ H kvs es
  | .dic true kvs, a => ∃ es, H a = some (dTO κ a es) ∧ RTs κ F ρ H kvs es
  | .ins c fs, a => ∃ dx gs, H a = some (.ins (κ.cls c) dx gs) ∧ RFs κ F ρ H fs gs
  | .frd false kvs, a => ∃ o es, H a = some (.frz o (.dK es)) ∧ RKs κ F ρ H kvs es
  | .frd true kvs, a => ∃ o es, H a = some (.frz o (dTO κ a es)) ∧ RTs κ F ρ H kvs es
  | .exo c fs, a => ∃ d gs, H a = some (exz a (κ.cls c) d) ∧ ((d = none ∧ fs = []) ∨ ∃ dd, d = some dd ∧ H dd = some (.xd gs) ∧ ¬ F dd ∧ RFs κ F ρ H fs gs)

def Fo (B : Addr → Prop) (ρ : List Addr) : Addr → Prop := fun a => B a ∨ a ∈ ρ
structure Wd (κ : Cn) (B : Addr → Prop) (ρ : List Addr) (st : Store) (H : Hp) : Prop where
  len : ρ.length = st.length
  nd : ρ.Nodup
  dom : ∀ a, B a → H a ≠ none
  sep : ∀ a ∈ ρ, ¬ B a
  ob : ∀ (n : Nat) (o : PO) (a : Addr), st[n]? = some o → ρ[n]? = some a → RO κ (Fo B ρ) ρ H o a
  tabs : TabsOk κ.K H
structure Ext (ρ : List Addr) (H : Hp) (ρ' : List Addr) (H' : Hp) : Prop where
  nu : ∃ ν, ρ' = ρ ++ ν ∧ ∀ a ∈ ν, H a = none
  dom : ∀ a, H a ≠ none → H' a ≠ none
  keep : ∀ a o, H a = some o → a ∉ ρ' → (∀ ps, o ≠ .tbl ps) → H' a = some o
  tup : ∀ a xs, H a = some (.tup xs) → H' a = some (.tup xs)
  frz : ∀ a o u, H a = some (.frz o u) → H' a = some (.frz o u)

section
variable {κ : Cn} {B : Addr → Prop} {F F' : Addr → Prop} {ρ ρ' ρ1 ρ2 : List Addr} {H H' H1 H2 : Hp} {st st' : Store}
theorem Ext.refl : Ext ρ H ρ H := ⟨⟨[], by simp, by simp⟩, fun _ h => h, fun _ _ h _ _ => h, fun _ _ h => h, fun _ _ _ h => h⟩
theorem Ext.sub (e : Ext ρ H ρ' H') : ∀ a ∈ ρ, a ∈ ρ' := fun a h => by
  obtain ⟨ν, rfl, _⟩ := e.nu
  exact List.mem_append_left _ h
theorem Ext.get (e : Ext ρ H ρ' H') {n : Nat} {a : Addr} (h : ρ[n]? = some a) : ρ'[n]? = some a := by
  obtain ⟨ν, rfl, _⟩ := e.nu
  rw [List.getElem?_append_left (List.getElem?_eq_some_iff.mp h).1, h]
theorem Ext.out (e : Ext ρ H ρ' H') {a : Addr} (h : a ∉ ρ) (hn : H a ≠ none) : a ∉ ρ' := fun hm => by
  obtain ⟨ν, rfl, hν⟩ := e.nu
  rcases List.mem_append.mp hm with z | z
  · exact h z
  · exact hn (hν a z)
theorem Ext.free (e : Ext ρ H ρ' H') {a : Addr} (h : H' a = none) : H a = none := by
  cases q : H a with
  | none => rfl
  | some o => exact absurd h (e.dom a (by rw [q]; simp))
theorem Ext.trans (e : Ext ρ H ρ1 H1) (f : Ext ρ1 H1 ρ2 H2) : Ext ρ H ρ2 H2 where
  nu := by
    obtain ⟨ν, rfl, h1⟩ := e.nu
    obtain ⟨ν', rfl, h2⟩ := f.nu
    refine ⟨ν ++ ν', by rw [List.append_assoc], fun a ha => ?_⟩
    rcases List.mem_append.mp ha with z | z
    · exact h1 a z
    · exact e.free (h2 a z)
  dom := fun a h => f.dom a (e.dom a h)
  keep := fun a o h n t => f.keep a o (e.keep a o h (fun z => n (f.sub a z)) t) n t
  tup := fun a xs h => f.tup a xs (e.tup a xs h)
  frz := fun a o u h => f.frz a o u (e.frz a o u h)

structure Mono (κ : Cn) (F : Addr → Prop) (ρ : List Addr) (H : Hp) (F' : Addr → Prop) (ρ' : List Addr) (H' : Hp) : Prop where
  tup : ∀ a xs, SqD κ.K H a xs → SqD κ.K H' a xs
  keep : ∀ a o, H a = some o → ¬ F a → (∀ ps, o ≠ .tbl ps) → H' a = some o
  out : ∀ a, H a ≠ none → ¬ F a → ¬ F' a
  get : ∀ (n : Nat) a, ρ[n]? = some a → ρ'[n]? = some a
theorem sqT_mono (h1 : ∀ a xs, H a = some (.tup xs) → H' a = some (.tup xs)) (h2 : ∀ a o u, H a = some (.frz o u) → H' a = some (.frz o u)) {a : Addr} {xs : List V} (h : SqT κ.K H a xs) : SqT κ.K H' a xs := by
  rcases h with (h | ⟨o, h⟩) | h
  · exact .inl (.inl (h1 a xs h))
  · exact .inl (.inr ⟨o, h2 a o _ h⟩)
  · exact .inr h
theorem Ext.mono (e : Ext ρ H ρ' H') : Mono κ (Fo B ρ) ρ H (Fo B ρ') ρ' H' where
  tup := fun a xs h => sqD_mono e.frz h
  keep := fun a o h n t => e.keep a o h (e.out (fun z => n (.inr z)) (by rw [h]; simp)) t
  out := fun a h n z => by
    rcases z with z | z
    · exact n (.inl z)
    · exact e.out (fun q => n (.inr q)) h z
  get := fun n a h => e.get h
theorem rd_mono (m : Mono κ F ρ H F' ρ' H') {a : Addr} {u : HO} (n : ¬ F a) (nt : ∀ ps, u ≠ .tbl ps) (h : Rd H a u) : Rd H' a u := by
  rcases h with h | ⟨o, h⟩
  · exact .inl (m.keep a _ h n nt)
  · exact .inr ⟨o, m.keep a _ h n fun _ z => nomatch z⟩
theorem rd_some {a : Addr} {u : HO} (h : Rd H a u) : H a ≠ none := by
  rcases h with h | ⟨o, h⟩ <;> rw [h] <;> simp
mutual
theorem RV.mono (m : Mono κ F ρ H F' ρ' H') : ∀ {p : PV} {v : V}, RV κ F ρ H p v → RV κ F' ρ' H' p v
  | .non, v, h => by simp only [RV] at h ⊢; exact h
  | .bl b, v, h => by simp only [RV] at h ⊢; exact h
  | .int i, v, h => by simp only [RV] at h ⊢; exact h
  | .str x, v, h => by simp only [RV] at h ⊢; exact h
  | .tup ps, v, h => by
    simp only [RV] at h ⊢
    obtain ⟨a, xs, e, h1, h2⟩ := h
    exact ⟨a, xs, e, m.tup a xs h1, RVs.mono m h2⟩
  | .lst ps, v, h => by
    simp only [RV] at h ⊢
    obtain ⟨a, xs, e, h1, n, h2⟩ := h
    exact ⟨a, xs, e, m.keep a _ h1 n (fun _ z => nomatch z), m.out a (by rw [h1]; simp) n, RVs.mono m h2⟩
  | .scr ns, v, h => by
    simp only [RV] at h ⊢
    obtain ⟨a, e, h1⟩ := h
    rcases h1 with ⟨h1, n⟩ | h1
    · exact ⟨a, e, .inl ⟨rd_mono m n (fun _ z => nomatch z) h1, m.out a (rd_some h1) n⟩⟩
    · exact ⟨a, e, .inr h1⟩
  | .dic false kvs, v, h => by
    simp only [RV] at h ⊢
    obtain ⟨a, es, e, h1, n, h2⟩ := h
    exact ⟨a, es, e, m.keep a _ h1 n (fun _ z => nomatch z), m.out a (by rw [h1]; simp) n, RKs.mono m h2⟩
  | .dic true kvs, v, h => by
    simp only [RV] at h ⊢
    obtain ⟨a, es, e, h1, n, h2⟩ := h
    exact ⟨a, es, e, m.keep a _ h1 n (fun _ z => nomatch z), m.out a (by rw [h1]; simp) n, RTs.mono m h2⟩
  | .ref n, v, h => by
    simp only [RV] at h ⊢
    obtain ⟨a, e, h1⟩ := h
    exact ⟨a, e, m.get n a h1⟩
theorem RVs.mono (m : Mono κ F ρ H F' ρ' H') : ∀ {p : List PV} {v : List V}, RVs κ F ρ H p v → RVs κ F' ρ' H' p v
  | [], v, h => by simp only [RVs] at h ⊢; exact h
  | p :: ps, v, h => by
    simp only [RVs] at h ⊢
    obtain ⟨w, r, e, h1, h2⟩ := h
    exact ⟨w, r, e, RV.mono m h1, RVs.mono m h2⟩
theorem RKs.mono (m : Mono κ F ρ H F' ρ' H') : ∀ {p : List (PV × PV)} {v : List (Key × V)}, RKs κ F ρ H p v → RKs κ F' ρ' H' p v
  | [], v, h => by simp only [RKs] at h ⊢; exact h
  | (k, p) :: ps, v, h => by
    simp only [RKs] at h ⊢
    obtain ⟨kk, w, r, e, h0, h1, h2⟩ := h
    exact ⟨kk, w, r, e, h0, RV.mono m h1, RKs.mono m h2⟩
theorem RTs.mono (m : Mono κ F ρ H F' ρ' H') : ∀ {p : List (PV × PV)} {v : List (NestedKey × Addr × V)}, RTs κ F ρ H p v → RTs κ F' ρ' H' p v
  | [], v, h => by simp only [RTs] at h ⊢; exact h
  | (k, p) :: ps, v, h => by
    simp only [RTs] at h ⊢
    obtain ⟨kk, a, w, r, e, h0, hk, h1, h2⟩ := h
    exact ⟨kk, a, w, r, e, h0, RV.mono m hk, RV.mono m h1, RTs.mono m h2⟩
end
theorem RFs.mono (m : Mono κ F ρ H F' ρ' H') : ∀ {p : List (Str × PV)} {v : List (Str × V)}, RFs κ F ρ H p v → RFs κ F' ρ' H' p v
  | [], v, h => h
  | (k, p) :: ps, v, h => by
    obtain ⟨w, r, e, h1, h2⟩ := h
    exact ⟨w, r, e, h1.mono m, RFs.mono m h2⟩
theorem RVs.length : ∀ {p : List PV} {v : List V}, RVs κ F ρ H p v → p.length = v.length
  | [], v, h => by simp only [RVs] at h; rw [h]; rfl
  | p :: ps, v, h => by
    simp only [RVs] at h
    obtain ⟨w, r, rfl, _, h2⟩ := h
    simp [RVs.length h2]
theorem RVs.get : ∀ {p : List PV} {v : List V} {i : Nat} {x : PV}, RVs κ F ρ H p v → p[i]? = some x → ∃ y, v[i]? = some y ∧ RV κ F ρ H x y
  | [], v, i, x, h, e => by simp at e
  | p :: ps, v, 0, x, h, e => by
    simp only [RVs] at h
    obtain ⟨w, r, rfl, h1, _⟩ := h
    simp at e
    subst e
    exact ⟨w, rfl, h1⟩
  | p :: ps, v, i + 1, x, h, e => by
    simp only [RVs] at h
    obtain ⟨w, r, rfl, _, h2⟩ := h
    simpa using RVs.get (i := i) (x := x) h2 (by simpa using e)
theorem RVs.append : ∀ {p q : List PV} {v w : List V}, RVs κ F ρ H p v → RVs κ F ρ H q w → RVs κ F ρ H (p ++ q) (v ++ w)
  | [], q, v, w, h, g => by
    simp only [RVs] at h
    subst h
    exact g
  | p :: ps, q, v, w, h, g => by
    simp only [RVs] at h
    obtain ⟨x, r, rfl, h1, h2⟩ := h
    rw [List.cons_append, List.cons_append]
    simp only [RVs]
    exact ⟨x, _, rfl, h1, RVs.append h2 g⟩
theorem RVs.cons {p : PV} {ps : List PV} {v : V} {vs : List V} (h : RV κ F ρ H p v) (g : RVs κ F ρ H ps vs) : RVs κ F ρ H (p :: ps) (v :: vs) := by
  simp only [RVs]; exact ⟨v, vs, rfl, h, g⟩
theorem RVs.nil : RVs κ F ρ H [] [] := by simp only [RVs]
theorem RVs.set : ∀ {p : List PV} {v : List V} (i : Nat) {x : PV} {y : V}, RVs κ F ρ H p v → RV κ F ρ H x y → RVs κ F ρ H (p.set i x) (v.set i y)
  | [], v, i, x, y, h, g => by
    simp only [RVs] at h
    subst h
    simp [RVs]
  | p :: ps, v, 0, x, y, h, g => by
    simp only [RVs] at h
    obtain ⟨w, r, rfl, _, h2⟩ := h
    exact RVs.cons g h2
  | p :: ps, v, i + 1, x, y, h, g => by
    simp only [RVs] at h
    obtain ⟨w, r, rfl, h1, h2⟩ := h
    exact RVs.cons h1 (RVs.set i h2 g)
theorem RVs.drop : ∀ {p : List PV} {v : List V} (i : Nat), RVs κ F ρ H p v → RVs κ F ρ H (p.drop i) (v.drop i)
  | p, v, 0, h => h
  | [], v, i + 1, h => by
    simp only [RVs] at h
    subst h
    simp [RVs]
  | p :: ps, v, i + 1, h => by
    simp only [RVs] at h
    obtain ⟨w, r, rfl, h1, h2⟩ := h
    exact RVs.drop i h2
theorem RVs.take : ∀ {p : List PV} {v : List V} (i : Nat), RVs κ F ρ H p v → RVs κ F ρ H (p.take i) (v.take i)
  | p, v, 0, h => by simp [RVs]
  | [], v, i + 1, h => by
    simp only [RVs] at h
    subst h
    simp [RVs]
  | p :: ps, v, i + 1, h => by
    simp only [RVs] at h
    obtain ⟨w, r, rfl, h1, h2⟩ := h
    exact RVs.cons h1 (RVs.take i h2)
theorem RVs.flatten : ∀ (k : Nat) {p : List PV} {v : List V}, RVs κ F ρ H p v → RVs κ F ρ H (List.replicate k p).flatten (List.replicate k v).flatten
  | 0, p, v, h => by simp [RVs]
  | k + 1, p, v, h => by
    rw [List.replicate_succ, List.replicate_succ, List.flatten_cons, List.flatten_cons]
    exact RVs.append h (RVs.flatten k h)


theorem RO.notb {o : PO} {a : Addr} (h : RO κ F ρ H o a) : ∃ u, H a = some u ∧ NoTb u := by
  cases o with
  | lst ps => obtain ⟨xs, h1, _⟩ := h; exact ⟨_, h1, notb_lst⟩
  | dic t kvs =>
    cases t
    · obtain ⟨es, h1, _⟩ := h; exact ⟨_, h1, notb_dK⟩
    · obtain ⟨es, h1, _⟩ := h; exact ⟨_, h1, notb_dTO⟩
  | ins c fs => obtain ⟨dx, gs, h1, _⟩ := h; exact ⟨_, h1, notb_ins⟩
  | frd t kvs => cases t <;> (obtain ⟨o, es, h1, _⟩ := h; exact ⟨_, h1, notb_frz⟩)
  | exo c fs => obtain ⟨d, gs, h1, _⟩ := h; exact ⟨_, h1, notb_exz⟩
theorem Wd.has (W : Wd κ B ρ st H) {a : Addr} (h : a ∈ ρ) : H a ≠ none := by
  obtain ⟨n, hn⟩ := List.getElem?_of_mem h
  have hl : n < st.length := by rw [← W.len]; exact (List.getElem?_eq_some_iff.mp hn).1
  have := W.ob n st[n] a (by simp [hl]) hn
  cases ho : st[n] with
  | lst ps => rw [ho] at this; obtain ⟨_, e, _⟩ := this; rw [e]; simp
  | dic t kvs =>
    rw [ho] at this
    cases t <;> (obtain ⟨_, e, _⟩ := this; rw [e]; simp)
  | ins c fs => rw [ho] at this; obtain ⟨_, _, e, _⟩ := this; rw [e]; simp
  | frd t kvs =>
    rw [ho] at this
    cases t <;> (obtain ⟨_, _, e, _⟩ := this; rw [e]; simp)
  | exo c fs => rw [ho] at this; obtain ⟨_, _, e, _⟩ := this; rw [e]; simp
theorem Wd.fo (W : Wd κ B ρ st H) {a : Addr} (h : H a = none) : ¬ Fo B ρ a := fun z => by
  rcases z with z | z
  · exact W.dom a z h
  · exact W.has z h
theorem Wd.nil (h : ∀ a, B a → H a ≠ none) (t : TabsOk κ.K H) : Wd κ B [] [] H := ⟨rfl, List.nodup_nil, h, fun _ z => absurd z (by simp), fun _ _ _ z => by simp at z, t⟩
theorem RO.mono (m : Mono κ F ρ H F' ρ' H') {o : PO} {a : Addr} (e : H' a = H a) (h : RO κ F ρ H o a) : RO κ F' ρ' H' o a := by
  cases o with
  | lst ps => obtain ⟨xs, h1, h2⟩ := h; exact ⟨xs, e.trans h1, h2.mono m⟩
  | dic t kvs => cases t <;> (obtain ⟨es, h1, h2⟩ := h; exact ⟨es, e.trans h1, h2.mono m⟩)
  | ins c fs => obtain ⟨dx, gs, h1, h2⟩ := h; exact ⟨dx, gs, e.trans h1, h2.mono m⟩
  | frd t kvs => cases t <;> (obtain ⟨o, es, h1, h2⟩ := h; exact ⟨o, es, e.trans h1, h2.mono m⟩)
  | exo c fs =>
    obtain ⟨d, gs, h1, h2⟩ := h
    refine ⟨d, gs, e.trans h1, ?_⟩
    rcases h2 with h2 | ⟨dd, e1, h3, nf, h4⟩
    · exact .inl h2
    · exact .inr ⟨dd, e1, m.keep dd _ h3 nf (fun ps z => nomatch z), m.out dd (by rw [h3]; simp) nf, h4.mono m⟩
theorem ext_new {a : Addr} {o : HO} (h : H a = none) : Ext ρ H ρ (upd H a o) where
  nu := ⟨[], by simp, by simp⟩
  dom := fun b hb => by
    by_cases e : b = a
    · subst e; rw [upd_same]; simp
    · rw [upd_ne e]; exact hb
  keep := fun b u hb _ _ => by rw [upd_ne (ne_of_none hb h)]; exact hb
  tup := fun b u hb => by rw [upd_ne (ne_of_none hb h)]; exact hb
  frz := fun b u _ hb => by rw [upd_ne (ne_of_none hb h)]; exact hb
theorem Wd.ext_same (W : Wd κ B ρ st H) (e : Ext ρ H ρ H') (t : TabsOk κ.K H') (h : ∀ a ∈ ρ, H' a = H a) : Wd κ B ρ st H' :=
  ⟨W.len, W.nd, fun a b => e.dom a (W.dom a b), W.sep, fun n o a h1 h2 => (W.ob n o a h1 h2).mono e.mono (h a (List.mem_of_getElem? h2)), t⟩
theorem Wd.new {a : Addr} {o : HO} (W : Wd κ B ρ st H) (h : H a = none) : Wd κ B ρ st (upd H a o) :=
  W.ext_same (ext_new h) (W.tabs.new h) fun b hb => upd_ne fun e => W.has hb (e ▸ h)
theorem ext_add {a : Addr} (h : H a = none) {o : HO} (H' : Hp) (e : H' = upd H a o) : Ext ρ H (ρ ++ [a]) H' := by
  subst e
  have e := ext_new (ρ := ρ) (o := o) h
  exact ⟨⟨[a], rfl, fun b hb => by rw [List.mem_singleton.mp hb]; exact h⟩, e.dom, fun b u hb n t => e.keep b u hb (fun z => n (List.mem_append_left _ z)) t, e.tup, e.frz⟩
theorem Wd.add {a : Addr} {o : HO} {po : PO} (W : Wd κ B ρ st H) (h : H a = none) (r : RO κ (Fo B (ρ ++ [a])) (ρ ++ [a]) (upd H a o) po a) : Wd κ B (ρ ++ [a]) (st ++ [po]) (upd H a o) := by
  have na : a ∉ ρ := fun z => W.has z h
  have E := ext_add (ρ := ρ) (o := o) h _ rfl
  refine ⟨by simp [W.len], ?_, fun b hb => E.dom b (W.dom b hb), fun b hb => ?_, fun n q b h1 h2 => ?_, W.tabs.new h⟩
  · rw [List.nodup_append]
    exact ⟨W.nd, List.nodup_cons.mpr ⟨by simp, List.nodup_nil⟩, fun b hb c hc => by rw [List.mem_singleton.mp hc]; exact fun e => na (e ▸ hb)⟩
  · rcases List.mem_append.mp hb with z | z
    · exact W.sep b z
    · rw [List.mem_singleton.mp z]; exact fun q => W.dom a q h
  · by_cases hn : n < ρ.length
    · rw [List.getElem?_append_left (by rw [← W.len]; exact hn)] at h1
      rw [List.getElem?_append_left hn] at h2
      exact (W.ob n q b h1 h2).mono E.mono (upd_ne fun e => na (e ▸ List.mem_of_getElem? h2))
    · have hn2 : n = ρ.length := by
        have := (List.getElem?_eq_some_iff.mp h2).1
        simp at this
        omega
      subst hn2
      rw [List.getElem?_append_right (Nat.le_refl _)] at h2
      rw [List.getElem?_append_right (by rw [W.len]; exact Nat.le_refl _), W.len] at h1
      simp at h1 h2
      subst h1; subst h2
      exact r
theorem ext_put (W : Wd κ B ρ st H) {n : Nat} {a : Addr} {o : HO} (ha : ρ[n]? = some a) (nt : ∀ xs, H a ≠ some (.tup xs)) (nf : ∀ o u, H a ≠ some (.frz o u)) : Ext ρ H ρ (upd H a o) where
  nu := ⟨[], by simp, by simp⟩
  dom := fun b hb => by
    by_cases e : b = a
    · subst e; rw [upd_same]; simp
    · rw [upd_ne e]; exact hb
  keep := fun b u hb nb _ => by rw [upd_ne fun (e : b = a) => nb (by rw [e]; exact List.mem_of_getElem? ha)]; exact hb
  tup := fun b u hb => by rw [upd_ne fun (e : b = a) => nt u (by rw [← e]; exact hb)]; exact hb
  frz := fun b u v hb => by rw [upd_ne fun (e : b = a) => nf u v (by rw [← e]; exact hb)]; exact hb
theorem nodup_get {α : Type} {l : List α} {i j : Nat} {x : α} (nd : l.Nodup) (h1 : l[i]? = some x) (h2 : l[j]? = some x) : i = j := by
  obtain ⟨a, e1⟩ := List.getElem?_eq_some_iff.mp h1
  obtain ⟨b, e2⟩ := List.getElem?_eq_some_iff.mp h2
  exact (List.getElem_inj nd).mp (e1.trans e2.symm)
theorem Wd.put (W : Wd κ B ρ st H) {n : Nat} {a : Addr} {o : HO} {po : PO} (ha : ρ[n]? = some a) (nt : ∀ xs, H a ≠ some (.tup xs)) (nf : ∀ o u, H a ≠ some (.frz o u)) (r : RO κ (Fo B ρ) ρ (upd H a o) po a) : Wd κ B ρ (st.set n po) (upd H a o) := by
  have E := ext_put W (o := o) ha nt nf
  have tb : TabsOk κ.K (upd H a o) := by
    have hl : n < st.length := by rw [← W.len]; exact (List.getElem?_eq_some_iff.mp ha).1
    obtain ⟨u, hu, nb⟩ := (W.ob n st[n] a (by simp [hl]) ha).notb
    exact W.tabs.turn hu nb fun b hb => upd_ne hb
  refine ⟨by simp [W.len], W.nd, fun b hb => E.dom b (W.dom b hb), W.sep, fun m q b h1 h2 => ?_, tb⟩
  by_cases hm : m = n
  · subst hm
    have e : b = a := by rw [ha] at h2; exact (Option.some.inj h2).symm
    subst e
    have hl : m < st.length := by rw [← W.len]; exact (List.getElem?_eq_some_iff.mp ha).1
    rw [List.getElem?_set_self hl] at h1
    cases h1
    exact r
  · rw [List.getElem?_set_ne (Ne.symm hm)] at h1
    exact (W.ob m q b h1 h2).mono E.mono (upd_ne fun (e : b = a) => hm (nodup_get W.nd h2 (by rw [e]; exact ha)))
theorem Wd.at (W : Wd κ B ρ st H) {n : Nat} {o : PO} (h : st[n]? = some o) : ∃ a, ρ[n]? = some a ∧ RO κ (Fo B ρ) ρ H o a := by
  have hl : n < ρ.length := by rw [W.len]; exact (List.getElem?_eq_some_iff.mp h).1
  exact ⟨ρ[n], by simp [hl], W.ob n o _ h (by simp [hl])⟩
end
end Dn


namespace Dn
open PySem L2
def SysOk (K : PySem.W.Frag) : Prop := ∃ o, K.lookup sysModules = some o ∧ o.cls = .type "dict"
def sysB (K : PySem.W.Frag) : Bool := match K.lookup sysModules with
  | some o => decide (o.cls = .type "dict")
  | none => false
theorem sysB_ok {K : PySem.W.Frag} (h : sysB K = true) : SysOk K := by
  unfold sysB at h
  split at h
  · rename_i o e
    exact ⟨o, e, of_decide_eq_true h⟩
  · cases h
def GlB (sc : Scope) (x : Str) : Bool := match sc.names.lookup x with
  | some .globalImplicit => true
  | _ => false
structure MRows (o : Expr) (name : Str) (apos : Pos) (e : Expr) (es : List Expr) (cpos : Pos) : Prop where
  base : ∀ env, attributeBase o name env (eval o env) = eval o env
  few : ∀ env, ((backTo cpos (starEach (e :: es) env)).all (fun x => !x.1) && (backToKw cpos (keywordEach [] env)).all (fun x => x.1.isSome)
      && decide ((e :: es).length + ([] : List Keyword).length + (if ([] : List Keyword).isEmpty then 0 else 1) < 30)) = true
  line : (apos.endLine == cpos.line) = true
  st : ∀ env, starEach (e :: es) env = (false, eval e env) :: starEach es env
  pl : ∀ env, (backTo cpos (starEach es env)).any (·.1) = false
inductive IsEs (e : Str) : List Expr → List Str → Prop
  | nil : IsEs e [] []
  | cons {x : Str} {p1 p2 p3 p4 : Pos} {as : List Expr} {xs : List Str} (h : IsEs e as xs) (hs : ∀ env, starEach (.Call (.Name ("isinstance" : Str) p1) [.Name e p2, .Name x p3] [] p4 :: as) env = (false, eval (.Call (.Name ("isinstance" : Str) p1) [.Name e p2, .Name x p3] [] p4) env) :: starEach as env := by intro _; rfl) : IsEs e (.Call (.Name ("isinstance" : Str) p1) [.Name e p2, .Name x p3] [] p4 :: as) (x :: xs)
inductive StrEs : List Expr → List Str → Prop
  | nil : StrEs [] []
  | cons {x : Str} {j : Nat} {p : Pos} {as : List Expr} {xs : List Str} (h : StrEs as xs) (hs : ∀ env, starEach (.Constant (.str x) j p :: as) env = (false, eval (.Constant (.str x) j p) env) :: starEach as env := by intro _; rfl) : StrEs (.Constant (.str x) j p :: as) (x :: xs)
structure AsgB (sc : Scope) (m : Str) (p : Pos) (e : Expr) (pos : Pos) : Prop where
  sw : ∀ env : PySem.Env, swapsWithSole [.Name m p] e pos.line { env with scope := sc } = pure false := by intro _; rfl
  st : ∀ env : PySem.Env, swappedStores [.Name m p] e { env with scope := sc } = pure none := by intro _; rfl
  as : ∀ env, (assignEach [.Name m p] env).map (·.2) = [assign (.Name m p) env] := by intro _; rfl
inductive KindB (sc : Scope) (e m w : Str) : List Str → List Str → List Stmt → Prop
  | mk {l1 l2 l3 l4 lw lv : List Expr} {x1 x2 x3 x4 w1 w2 : List Str} {j1 j2 j3 j4 : Nat} {oth : Str}
      {a1 a2 a3 b1 b2 b3 b4 b5 c1 c2 c3 c4 c5 d1 d2 d3 d4 d5 f1 f2 f3 g1 g2 g3 g4 g5 g6 g7 g8 g9 g10 g11 g12 g13 g14 i1 i2 i3 i4 i5 i6 i7 i8 i9 i10 : Pos}
      (h1 : IsEs e l1 x1) (h2 : IsEs e l2 x2) (h3 : IsEs e l3 x3) (h4 : IsEs e l4 x4) (hw : StrEs lw w1) (hv : StrEs lv w2)
      (s1 : AsgB sc m a1 (.List l1 a2) a3) (s2 : AsgB sc m b1 (.BinOp (.Name m b2) .Add (.List l2 b3) b4) b5) (s3 : AsgB sc m c1 (.BinOp (.Name m c2) .Add (.List l3 c3) c4) c5)
      (s4 : AsgB sc m d1 (.BinOp (.Name m d2) .Add (.List l4 d3) d4) d5) (s5 : AsgB sc w f1 (.List lw f2) f3)
      (hm : MRows (.Name m g1) ("count" : Str) g2 (.Constant (.bool true) j1 g3) [] g4) (hn : MRows (.Name m i3) ("index" : Str) i4 (.Constant (.bool true) j4 i5) [] i6)
      (hs : ∀ env, starEach [.Name e g8, .Name ("ValueError" : Str) g9] env = (false, eval (.Name e g8) env) :: starEach [.Name ("ValueError" : Str) g9] env) :
      KindB sc e m w (x1 ++ x2 ++ x3 ++ x4) (w1 ++ w2) [
        .Assign [.Name m a1] (.List l1 a2) a3,
        .Assign [.Name m b1] (.BinOp (.Name m b2) .Add (.List l2 b3) b4) b5,
        .Assign [.Name m c1] (.BinOp (.Name m c2) .Add (.List l3 c3) c4) c5,
        .Assign [.Name m d1] (.BinOp (.Name m d2) .Add (.List l4 d3) d4) d5,
        .Assign [.Name w f1] (.List lw f2) f3,
        .If (.BoolOp .Or [.Compare (.Call (.Attribute (.Name m g1) ("count" : Str) g2) [.Constant (.bool true) j1 g3] [] g4) [.NotEq] [.Constant (.int 1) j2 g5] g6,
            .UnaryOp .Not (.Call (.Name ("isinstance" : Str) g7) [.Name e g8, .Name ("ValueError" : Str) g9] [] g10) g11] g12) [.Return (some (.Constant (.str oth) j3 g13)) g14] [] i9,
        .Return (some (.Subscript (.BinOp (.Name w i1) .Add (.List lv i2) i7) (.Call (.Attribute (.Name m i3) ("index" : Str) i4) [.Constant (.bool true) j4 i5] [] i6) i8)) i10]
inductive SaidB (sc : Scope) (call e lab : Str) : List Stmt → Prop
  | mk {j1 j2 j3 j4 j5 : Nat} {a1 a2 a3 a4 b1 b2 b3 b4 b5 b6 c1 c2 c3 c4 c5 d1 d2 d3 d4 d5 d6 d7 d8 d9 d10 d11 d12 d13 d14 d15 d16 d17 d18 f1 f2 f3 : Pos}
      (s1 : AsgB sc lab b1 (.Call (.Name ("_law_kind" : Str) b2) [.Name e b3] [] b4) b5)
      (hs : ∀ env, starEach [.Call (.Name call a1) [] [] a2] env = (false, eval (.Call (.Name call a1) [] [] a2) env) :: starEach [] env) (hk : ∀ env, starEach [.Name e b3] env = (false, eval (.Name e b3) env) :: starEach [] env)
      (h1 : ∀ env, starEach [.Attribute (.Name e d3) ("many" : Str) d4] env = (false, eval (.Attribute (.Name e d3) ("many" : Str) d4) env) :: starEach [] env) (h2 : ∀ env, starEach [.Attribute (.Name e d9) ("most" : Str) d10] env = (false, eval (.Attribute (.Name e d9) ("most" : Str) d10) env) :: starEach [] env)
      (hb1 : ∀ env, attributeBase (.Name e d3) ("many" : Str) env (eval (.Name e d3) env) = eval (.Name e d3) env) (hb2 : ∀ env, attributeBase (.Name e d9) ("most" : Str) env (eval (.Name e d9) env) = eval (.Name e d9) env) :
      SaidB sc call e lab [.Try [.Return (some (.Call (.Name ("repr" : Str) a3) [.Call (.Name call a1) [] [] a2] [] a4)) b6]
        [.ExceptHandler (some (.Name ("TiltError" : Str) c1)) (some e) [.Assign [.Name lab b1] (.Call (.Name ("_law_kind" : Str) b2) [.Name e b3] [] b4) b5,
          .Return (some (.BinOp (.BinOp (.Constant (.str "! ") j1 c2) .Add (.Name lab c3) c4) .Add
            (.IfExp (.Compare (.Name lab d1) [.Eq] [.Constant (.str "many") j2 d2] f1)
              (.BinOp (.BinOp (.BinOp (.Constant (.str " ") j3 d5) .Add (.Call (.Name ("str" : Str) d6) [.Attribute (.Name e d3) ("many" : Str) d4] [] d7) d8) .Add (.Constant (.str " ") j4 d11) d12) .Add (.Call (.Name ("str" : Str) d13) [.Attribute (.Name e d9) ("most" : Str) d10] [] d14) d15)
              (.Constant (.str "") j5 d16) d17) d18)) f2] c5] [] [] f3]
inductive TmB (sc : Scope) (self fa fb base : Str) : List Stmt → Prop
  | mk {j1 j2 : Nat} {w1 w2 : Str} {p1 p2 p3 p4 p5 p6 p7 p8 p9 p10 p11 p12 q1 q2 q3 q4 r1 r2 r3 r4 : Pos}
      (hc : ∀ env : PySem.Env, ∃ pl : Sem Bool, eval (.Call (.Attribute (.Name base p1) "__init__" p2) [.Name self p3, .JoinedStr [.FormattedValue (.Name fa p4) (-1) none p5, .Constant (.str w1) j1 p6, .FormattedValue (.Name fb p7) (-1) none p8, .Constant (.str w2) j2 p9] p10] [] p11) env = (do
        let ov ← eval (.Name base p1) env
        standAt p2.atName
        let (f, first) ← holding [ov] (getMethod ov "__init__" pl)
        callWith p11 f first (backTo p11 (starEach [.Name self p3, .JoinedStr [.FormattedValue (.Name fa p4) (-1) none p5, .Constant (.str w1) j1 p6, .FormattedValue (.Name fb p7) (-1) none p8, .Constant (.str w2) j2 p9] p10] env)) (backToKw p11 (keywordEach [] env))))
      (hs : ∀ env, starEach [.Name self p3, .JoinedStr [.FormattedValue (.Name fa p4) (-1) none p5, .Constant (.str w1) j1 p6, .FormattedValue (.Name fb p7) (-1) none p8, .Constant (.str w2) j2 p9] p10] env = [(false, eval (.Name self p3) env), (false, eval (.JoinedStr [.FormattedValue (.Name fa p4) (-1) none p5, .Constant (.str w1) j1 p6, .FormattedValue (.Name fb p7) (-1) none p8, .Constant (.str w2) j2 p9] p10) env)])
      (h1 : ∀ env : PySem.Env, swapsWith (.Name fa q4) (some (.Attribute (.Name self q1) fa q2)) q3.line { env with scope := sc } = pure false)
      (h2 : ∀ env : PySem.Env, swapsWith (.Name fb r4) (some (.Attribute (.Name self r1) fb r2)) r3.line { env with scope := sc } = pure false)
      (l1 : w1.length ≤ 100) (l2 : w2.length ≤ 100) :
      TmB sc self fa fb base [
        .Expr (.Call (.Attribute (.Name base p1) "__init__" p2) [.Name self p3, .JoinedStr [.FormattedValue (.Name fa p4) (-1) none p5, .Constant (.str w1) j1 p6, .FormattedValue (.Name fb p7) (-1) none p8, .Constant (.str w2) j2 p9] p10] [] p11) p12,
        .Assign [.Attribute (.Name self q1) fa q2] (.Name fa q4) q3,
        .Assign [.Attribute (.Name self r1) fb r2] (.Name fb r4) r3]
structure TmT (K : PySem.W.Frag) (mg : Str → Option Value) (C : Addr) : Type where
  CT : Addr
  fI : Addr
  fd : FuncData
  pa : Arguments
  bd : List Stmt
  sc : Scope
  self : Str
  fa : Str
  fb : Str
  mc : Value
  F : FunD K ("__init__" : Str) ("TooMany.__init__" : Str) pa bd sc [] [] fI fd
  S : FnScope [self, fa, fb] [self, fa, fb] sc
  bi : L2.Binds K fd [self, fa, fb] []
  T : OexC K C
  iC : PySem.W.findIn K (.ref C) ("__init__" : Str) = some (some (.ref fI))
  tI : PySem.W.typeIn K (.ref fI) = some (.type "function")
  nf : PySem.W.findIn K (.ref C) ("many" : Str) = some none ∧ PySem.W.findIn K (.ref C) ("most" : Str) = some none
  ab : fa = ("many" : Str) ∧ fb = ("most" : Str)
  mx : mg ("TooMany" : Str) = some (.ref C)
  mT : mg ("TiltError" : Str) = some (.ref CT)
  rd : PySem.W.readsIn K CT mc = true
  fc : PySem.W.findCls K (.ref CT) mc ("__init__" : Str) = some (.val (.builtin "ValueError.__init__"))
  sp : PySem.W.specialIn K (.ref CT) "__getattribute__" = some (some (.builtin "type.__getattribute__"))
  tb : TmB sc self fa fb ("TiltError" : Str) bd
  gl : GlB sc ("TiltError" : Str) = true
  lo : decide (sc.names.lookup self = some .local) && (decide (sc.names.lookup fa = some .local) && decide (sc.names.lookup fb = some .local)) = true
  ok : ([self, fa, fb] : List Str).all (fun x => !(x == ("__debug__" : Str)) && !(x == ("__classdict__" : Str)) && !(x == ("__name__" : Str))) = true
structure KindC (K : PySem.W.Frag) (C CT : Addr) (cl : Str → Addr) (xs ws : List Str) (word : Str) : Prop where
  ec : ExcC K C
  ex : PySem.W.exmOne K (.ref C) (.ref CT) = some true
  ve : PySem.W.kitOne K (.ref C) (.type "ValueError") = some true
  at_ : ∃ i, (xs.map fun x => PySem.W.kitOne K (.ref C) (.ref (cl x))) = (List.range xs.length).map (fun j => some (decide (j = i))) ∧ i < xs.length ∧ ws[i]? = some word
  wl : word.length < 1000
  xf : word = ("many" : Str) → XfC K C ∧ PySem.W.findIn K (.ref C) ("many" : Str) = some none ∧ PySem.W.findIn K (.ref C) ("most" : Str) = some none
structure SaidT (K : PySem.W.Frag) (mg : Str → Option Value) (cls : Nat → Addr) (kinds : List (Nat × Str)) : Type where
  gS : Addr
  gK : Addr
  CT : Addr
  cl : Str → Addr
  pS : Arguments
  bS : List Stmt
  sS : Scope
  fS : FuncData
  pK : Arguments
  bK : List Stmt
  sK : Scope
  fK : FuncData
  call : Str
  e : Str
  lab : Str
  ek : Str
  m : Str
  w : Str
  xs : List Str
  ws : List Str
  FS : FunD K ("_law_said" : Str) ("_law_said" : Str) pS bS sS [] [] gS fS
  FK : FunD K ("_law_kind" : Str) ("_law_kind" : Str) pK bK sK [] [] gK fK
  mS : mg ("_law_said" : Str) = some (.ref gS)
  mK : mg ("_law_kind" : Str) = some (.ref gK)
  mT : mg ("TiltError" : Str) = some (.ref CT)
  biS : L2.Binds K fS [call] []
  biK : L2.Binds K fK [ek] []
  scS : FnScope [call, e, lab] [call] sS
  scK : FnScope [ek, m, w] [ek] sK
  sb : SaidB sS call e lab bS
  kb : KindB sK ek m w xs ws bK
  glS : (["repr", "str", "_law_kind", "TiltError"] : List Str).all (GlB sS) = true
  glK : (["isinstance", "ValueError"] : List Str).all (GlB sK) = true
  glX : xs.all (GlB sK) = true
  loS : decide (sS.names.lookup call = some .local) && (decide (sS.names.lookup e = some .local) && decide (sS.names.lookup lab = some .local)) = true
  loK : decide (sK.names.lookup ek = some .local) && (decide (sK.names.lookup m = some .local) && decide (sK.names.lookup w = some .local)) = true
  ok : ([call, e, lab, ek, m, w] ++ xs).all (fun x => !(x == ("__debug__" : Str)) && !(x == ("__classdict__" : Str)) && !(x == ("__name__" : Str))) = true
  fr : mg ("repr" : Str) = none ∧ mg ("str" : Str) = none ∧ mg ("isinstance" : Str) = none ∧ mg ("ValueError" : Str) = none
  mx : ∀ x ∈ xs, mg x = some (.ref (cl x))
  one : ∀ p ∈ kinds, KindC K (cls p.1) CT cl xs ws p.2
  ln : ws.length < 1000 ∧ xs.length < 1000
  tm : ∀ p ∈ kinds, p.2 = ("many" : Str) → Nonempty (TmT K mg (cls p.1))
end Dn


namespace L2
open PySem PySem.Spec PyProof.Rows
section
variable {X : Cx} {es : List Expr} {t : TA} {pos : Pos}
def tTupF (t : TA) : TE := fun σ H Q => t σ H fun xs H1 => xs.length ≤ sizeLine ∧ ∀ p o, H1 p = none → o.dict = none → Q (.ref p) (upd H1 p (.frz o (.tup xs)))
theorem pe_tupF {x1} (h : PA X es t) : PE X (.Tuple es x1 pos) (tTupF t) := by
  refine ⟨fun pins s σ H Q I hq => ?_⟩
  refine wpAny_Tuple_spliced (thn (h.run pos pins s σ H _ I hq) fun us s1 ⟨xs, H1, I1, r, z, q⟩ => ⟨by rw [← r.length]; exact z, ?_⟩)
  have hf : H1 s1.heap.objs.size = none := I1.hok.fresh (Nat.le_refl _)
  refine ⟨.ref s1.heap.objs.size, upd H1 s1.heap.objs.size (.frz { cls := .type "tuple", data := .seq us.toArray } (.tup xs)), I1.laid (t' := s1.toks) (fun b u e => Heap.get?_push_of_some _ e) (Nat.le_refl _) ?_, rfl, q _ _ hf rfl⟩
  exact ⟨Heap.get?_push_size _ rfl, z, us, r, ⟨_, Heap.get?_push_size _ rfl, rfl, _, rfl⟩⟩
def rCatF (K : PySem.W.Frag) : R2 := fun x y H Q => ∃ a b xs ys, x = .ref a ∧ y = .ref b ∧ SqT K H a xs ∧ SqT K H b ys ∧ xs.length + ys.length ≤ sizeLine ∧
  (xs = [] → Q (.ref b) H) ∧ (xs ≠ [] → ys = [] → Q (.ref a) H) ∧ (xs ≠ [] → ys ≠ [] → ∀ p o, H p = none → o.dict = none → Q (.ref p) (upd H p (.frz o (.tup (xs ++ ys)))))
theorem op_catF : OpR X (binaryOp .Add) (rCatF X.K) := by
  intro pins s σ H x y v u Q I rx ry h
  obtain ⟨a, b, xs, ys, rfl, rfl, ha, hb, hz, q0, q1, q2⟩ := h
  cases rx
  cases ry
  obtain ⟨its, r1, p1, _⟩ := I.tuple ha
  obtain ⟨its2, r2, p2, _⟩ := I.tuple hb
  by_cases hx : xs = []
  · subst hx
    cases r1
    exact cat_tup0 p1 p2 ⟨.ref b, H, I, rfl, q0 rfl⟩
  · refine HT.cat_tup p1 p2 (fun z => hx (r1.nil_iff.mp z)) (fun z => ⟨.ref a, H, I, rfl, q1 hx (r2.nil_iff.mp z)⟩) (fun z => ?_) (by rw [← r1.length, ← r2.length]; exact hz)
    refine ⟨.ref s.heap.objs.size, _, I.laid (t' := s.toks) (o := .frz { cls := .type "tuple", data := .seq (its ++ its2).toArray } (.tup (xs ++ ys))) (fun b ob q => Heap.get?_push_of_some _ q) (Nat.le_refl _) ?_, rfl, q2 hx (fun w => z (r2.nil_iff.mpr w)) _ _ (I.hok.fresh (Nat.le_refl _)) rfl⟩
    exact ⟨Heap.get?_push_size _ rfl, by rw [List.length_append]; exact hz, _, r1.append r2, IsTup.new _ _⟩
def rSlF (K : PySem.W.Frag) : V → Option Int → Option Int → Hp → VK → Prop := fun x lo hi H Q => ∃ a xs, x = .ref a ∧ SqT K H a xs ∧
  (HT.sIx xs.length 0 lo = 0 ∧ HT.sIx xs.length xs.length hi = xs.length → Q (.ref a) H) ∧ (¬ (HT.sIx xs.length 0 lo = 0 ∧ HT.sIx xs.length xs.length hi = xs.length) → ∀ p o, H p = none → o.dict = none → Q (.ref p) (upd H p (.frz o (.tup (cutV xs lo hi)))))
theorem sl_tupF : SlR X (rSlF X.K) := by
  intro pins s σ H x v vl vu lo hi sl Q I rx hs pl pu h
  obtain ⟨a, xs, rfl, hx, q1, q2⟩ := h
  cases rx
  obtain ⟨its, r, ht, hz⟩ := I.tuple hx
  have hlen : its.toArray.size = xs.length := by rw [List.size_toArray]; exact r.length.symm
  refine ⟨"tuple", _, PyProof.Rows.slot_tuple_getitem.lookup, ht.typeIs, ?_⟩
  by_cases hw : HT.sIx xs.length 0 lo = 0 ∧ HT.sIx xs.length xs.length hi = xs.length
  · exact getItem_tuple_whole ht hs pl pu (by rw [hlen]; exact hw) ⟨.ref a, H, I, rfl, q1 hw⟩
  · refine HT.getItem_tuple_cut ht hs pl pu (by rw [hlen]; exact hw) ?_ (by rw [hlen]; exact hz)
    rw [hlen]
    refine ⟨.ref s.heap.objs.size, _, I.laid (t' := s.toks) (o := .frz { cls := .type "tuple", data := .seq ((its.toArray.toList.drop (HT.sIx xs.length 0 lo)).take (HT.sIx xs.length xs.length hi - HT.sIx xs.length 0 lo)).toArray } (.tup (cutV xs lo hi))) (fun b ob q => Heap.get?_push_of_some _ q) (Nat.le_refl _) ?_, rfl, q2 hw _ _ (I.hok.fresh (Nat.le_refl _)) rfl⟩
    exact ⟨Heap.get?_push_size _ rfl, Nat.le_trans (cutV_length xs lo hi) hz, _, (r.drop (HT.sIx xs.length 0 lo)).take (HT.sIx xs.length xs.length hi - HT.sIx xs.length 0 lo), IsTup.new _ _⟩
theorem call_tupleF : CallR X (.type "tuple") (fun xs H Q => ∃ p ys, xs = [.ref p] ∧ ((SqL X.K H p ys ∧ ∀ l o, H l = none → o.dict = none → Q (.ref l) (upd H l (.frz o (.tup ys)))) ∨ (SqT X.K H p ys ∧ Q (.ref p) H))) := by
  intro pins s σ H xs us Q I r h
  obtain ⟨p, ys, rfl, h⟩ := h
  obtain ⟨u, rfl, rx⟩ := vals1 r
  cases rx
  rcases h with ⟨hq, q⟩ | ⟨hq, q⟩
  · obtain ⟨its, r', pl, hz⟩ := I.list hq
    have hlen := r'.length
    refine call_tuple_list pl.isList (fun h' kp => ?_) (by simp only [List.size_toArray] <;> omega)
    have I1 : Inv X pins σ H { s with heap := h' } := I.kept (t' := s.toks) kp
    have I2 : Inv X pins σ (upd H h'.objs.size (.frz { cls := .type "tuple", data := .seq its.toArray } (.tup ys))) { s with heap := h'.push { cls := .type "tuple", data := .seq its.toArray } } :=
      I1.laid (t' := s.toks) (fun b o e => Heap.get?_push_of_some _ e) (Nat.le_refl _) ⟨Heap.get?_push_size _ rfl, show ObjOk X.prog X.w _ _ _ (.tup ys) from ⟨hz, its, r', IsTup.new _ _⟩⟩
    exact ⟨.ref h'.objs.size, _, I2, rfl, q _ _ (I1.hok.fresh (Nat.le_refl _)) rfl⟩
  · obtain ⟨its, r', pl, hz⟩ := I.tuple hq
    exact call_tuple_same pl ⟨.ref p, H, I, rfl, q⟩
def rRepF (K : PySem.W.Frag) : R2 := fun x y H Q => ∃ l k xs, x = .ref l ∧ y = .int k ∧ SqT K H l xs ∧ xs ≠ [] ∧ 2 ≤ k ∧ k ≤ 1000 ∧ xs.length ≤ 1000 ∧ ∀ p o, H p = none → o.dict = none → Q (.ref p) (upd H p (.frz o (.tup (List.replicate k.toNat xs).flatten)))
theorem op_repF : OpR X (binaryOp .Mult) (rRepF X.K) := by
  rintro pins s σ H _ _ v u Q I rx ru ⟨a, m, ws, rfl, rfl, sq, ne, two, most, short, fin⟩
  cases rx
  obtain ⟨tk, rfl⟩ := ru
  obtain ⟨vs, rel, ⟨ob, eo, ec, cap, ed⟩, _⟩ := I.tuple sq
  obtain ⟨cls, dd, data, sl⟩ := ob
  cases (show cls = _ from ec)
  cases (show data = _ from ed)
  have same : vs.length = ws.length := rel.length.symm
  have full : vs.toArray.isEmpty = false := by
    cases rel with
    | nil => exact absurd rfl ne
    | cons _ _ => rfl
  have sz : vs.toArray.size = ws.length := by simp [same]
  have prod : ((vs.toArray.size : Nat) : Int) * m ≤ 1000000 := by
    have := Int.mul_le_mul_of_nonneg_right (show ((ws.length : Nat) : Int) ≤ 1000 by omega) (show 0 ≤ m by omega)
    rw [sz]
    omega
  have lenN : m.toNat * ws.length ≤ 1000000 := Nat.le_trans (Nat.mul_le_mul (show m.toNat ≤ 1000 by omega) short) (by decide)
  have e1 : (decide (m < -(2 ^ 63)) || decide (m ≥ 2 ^ 63)) = false := by simp; omega
  have e2 : (vs.toArray.isEmpty || m == 1) = false := by simp [full]; omega
  have e3 : (decide (m ≤ 0) || vs.toArray.isEmpty) = false := by simp [full]; omega
  have e4 : Builtin.Tuple.tupleTooMany (((vs.toArray.size : Nat) : Int) * m) = false := by
    unfold Builtin.Tuple.tupleTooMany
    simp only [sizeLine_eq, decide_eq_false_iff_not]
    omega
  refine wpAny_binaryOp_repeat_ref (T := "tuple") (U := "int") (by decide) ⟨_, eo, rfl⟩ (typeIs_int · m tk) noFill_tuple_mul F.fills_int_mul F.slot_int_rmul repeat_tuple F.slot_int_index.lookup
    (call_meets F.slot_int_rmul (typeIs_int s m tk) F.entry_int_rmul (F.args_int_rmul_2 _ _) (int_rmul_tuple m tk a vs.toArray cap dd sl) ⟨eo, rfl, ⟨_, eo, rfl⟩,
      call_meets F.slot_tuple_mul ⟨_, eo, rfl⟩ F.entry_tuple_mul (F.args_tuple_mul_2 _ _) (tuple_mulW a vs.toArray cap dd sl m tk e1 e2 e3 (by omega) e4 (by rw [size_rep, List.size_toArray, PyProof.Rows.lm_len_rep_flat, same, sizeLine_eq]; omega)) ⟨eo, ?_⟩⟩)
  rw [size_rep]
  exact ⟨.ref s.heap.objs.size, _, I.laid (t' := s.toks) (o := .frz { cls := .type "tuple", data := .seq (List.replicate m.toNat vs).flatten.toArray } (.tup (List.replicate m.toNat ws).flatten)) (fun _ _ q => Heap.get?_push_of_some _ q) (Nat.le_refl _)
    ⟨Heap.get?_push_size _ rfl, by rw [PyProof.Rows.lm_len_rep_flat, sizeLine_eq]; omega, _, rel.rep m.toNat, IsTup.new _ _⟩, rfl, fin _ _ (I.hok.fresh (Nat.le_refl _)) rfl⟩
end
end L2


namespace Dn
open PySem L2

structure Pg where
  tbl : Nat → Option FnD
  gname : Nat → Option Str
  dfl : Nat → List PV
  cname : Nat → Option Str
  cinit : Nat → Nat
  flds : Nat → List Str
  meths : Nat → List (Str × Nat)
  consts : Str → Option PV
  free : List Str
  kw : Nat → List KwS
  isc : List Nat
  exn : Nat → Option Str
  exs : List (Nat × Nat)
  /-- the defs that make lambdas -/
  lams : List Str
  /-- what refusals are called: classes, words -/
  kinds : List (Nat × Str)
  /-- within a lambda -/
  inl : Bool
  /-- exceptions that stand as values: their classes, the class of all, the one with two numbers -/
  xvs : Option (List Nat × Nat × Nat) := none
def Pg.rt (Γ : Pg) (f : Nat) : Option FnD := if Nat.blt f 500 then Γ.tbl f else none
theorem Pg.rt_tbl {Γ : Pg} {f : Nat} {d : FnD} (h : Γ.rt f = some d) : Γ.tbl f = some d := by
  unfold Pg.rt at h
  split at h
  · exact h
  · cases h

structure LamD (K : PySem.W.Frag) (ls : List Str) : Prop where
  nd : ∀ t ∈ tabsK K, ∀ t' ∈ tabsK K, t.2.1 = t'.2.1 → t.2.2 = t'.2.2
  has : ∀ a oc od fd osl, K.lookup a = some ⟨oc, od, .func fd, osl⟩ → fd.qualname ∈ ls → PySem.W.codeIn K fd.code fd.qualname = true → ∃ cc P, fd.code = .ref cc ∧ (cc, P, fd.qualname ++ ".<locals>." ++ "<lambda>") ∈ tabsK K
structure ExK (K : PySem.W.Frag) (C : Addr) : Prop where
  kp : PySem.W.keepIn K (.ref C) = true
  made : ∃ B n i bm, PySem.ExcBaseFacts B n i bm ∧ PySem.W.excIn K C bm n = true
  sub : PySem.W.subIn K (.ref C) (.type "BaseException") = some true
  ty : PySem.W.typeIn K (.ref C) = some (.type "type")
def RX (κ : Cn) (e : PX) (cls : Value) (d : Option Addr) (H : Hp) : Prop :=
  cls = .ref (κ.cls e.c) ∧ ((e.fs = [] ∧ d = none) ∨ e.fs ≠ [] ∧ ∃ dd gs, d = some dd ∧ H dd = some (.xd gs) ∧ ∀ F ρ, RFs κ F ρ H e.fs gs)
structure Fr where
  B : Addr → Prop
  ρ0 : List Addr
  H0 : Hp
  Ex : PX → Store → Prop
structure At (κ : Cn) (G : Fr) (ρ : List Addr) (st : Store) (H : Hp) : Prop where
  wd : Wd κ G.B ρ st H
  ext : Ext G.ρ0 G.H0 ρ H
def EXK (κ : Cn) (G : Fr) : XK := fun cls d H' => ∃ e st' ρ', At κ G ρ' st' H' ∧ RX κ e cls d H' ∧ G.Ex e st'
def OutF (κ : Cn) (B : Addr → Prop) (ρ : List Addr) (H : Hp) (r : Res PV) (Q : VK) (E : XK) : Prop := match r with
  | .ok v st' => ∀ ρ' H' u, Ext ρ H ρ' H' → Wd κ B ρ' st' H' → RV κ (Fo B ρ') ρ' H' v u → Q u H'
  | .exc e st' => ∀ ρ' H' cls d, Ext ρ H ρ' H' → Wd κ B ρ' st' H' → RX κ e cls d H' → E cls d H'
  | .bad => False
def spI (κ : Cn) (Γ : Pg) (n f : Nat) : Sp := fun vs H Q E => ∃ B ρ st pvs, Wd κ B ρ st H ∧ RVs κ (Fo B ρ) ρ H pvs vs ∧ (∃ d, Γ.tbl f = some d ∧ pvs.length = d.np) ∧
  OutF κ B ρ H (callN Γ.tbl n f pvs st) Q E
structure XvT (K : PySem.W.Frag) (mg : Str → Option Value) (cls : Nat → Addr) (cs : List Nat) (T tm : Nat) : Prop where
  ec : ∀ C ∈ cs, ExcC K (cls C)
  one : ∀ C ∈ cs, ∀ D ∈ cs, PySem.W.kitOne K (.ref (cls C)) (.ref (cls D)) = some (decide (C = D))
  te : ∀ C ∈ cs, PySem.W.kitOne K (.ref (cls C)) (.ref (cls T)) = some true
  ve : ∀ C ∈ cs, PySem.W.kitOne K (.ref (cls C)) (.type "ValueError") = some true
  two : tm ∈ cs ∧ ∃ M : TmT K mg (cls tm), KBn K M.fd [M.self, M.fa, M.fb] 1 [("most" : Str), ("many" : Str)] (fun us ws => pick [0, 2, 1] (us ++ ws ++ [])) (fun vs zs => pick [0, 2, 1] (vs ++ zs ++ []))
  xf : XfC K (cls tm)
structure EnvOk (Γ : Pg) (κ : Cn) (mg : Str → Option Value) (base : Heap) (n : Nat) (fa : Nat → Addr) : Prop where
  fn : ∀ f d, Γ.rt f = some d → ∃ fd ps, FnG κ.P κ.w κ.K mg base (L2.CX κ.P κ.w) (2 * n) (fa f) fd ps (spI κ Γ n f) ∧ ps.length = d.np ∧ PySem.W.keepIn κ.K (.ref (fa f)) = true ∧
    ∀ j, j ≤ (Γ.dfl f).length → ∃ ds dvs, Binds κ.K fd ps ds ∧ Vals dvs ds ∧ ∀ F ρ H, RVs κ F ρ H ((Γ.dfl f).drop j) dvs
  gn : ∀ f x, Γ.gname f = some x → mg x = some (.ref (fa f))
  cn : ∀ C x, Γ.cname C = some x → mg x = some (.ref (κ.cls C)) ∧ Mk κ.K (κ.cls C) (fa (Γ.cinit C)) ∧ Cls κ.K (κ.cls C)
  fl : ∀ C x f, Γ.cname C = some x → f ∈ Γ.flds C → NoAttr κ.K (κ.cls C) f
  me : ∀ C x m f, Γ.cname C = some x → (m, f) ∈ Γ.meths C → Meth κ.K (κ.cls C) m (fa f)
  ct : ∀ x v, Γ.consts x = some v → ∃ u w, mg x = some u ∧ RelV w u ∧ ∀ F ρ H, RV κ F ρ H v w
  bl : ∀ x, x ∈ Γ.free → mg x = none
  kw : ∀ f d, Γ.rt f = some d → ∀ k ∈ Γ.kw f, ∃ fd ps g dvs, FnG κ.P κ.w κ.K mg base (L2.CX κ.P κ.w) (2 * n) (fa f) fd ps (spI κ Γ n f) ∧ PySem.W.keepIn κ.K (.ref (fa f)) = true ∧
    KBn κ.K fd ps k.n k.ks g (fun vs zs => pick k.perm (vs ++ zs ++ dvs)) ∧ ∀ F ρ H, RVs κ F ρ H (Γ.dfl f) dvs
  isc : ∀ C ∈ Γ.isc, InsX κ.K (κ.cls C)
  exn : ∀ C x, Γ.exn C = some x → mg x = some (.ref (κ.cls C)) ∧ ExK κ.K (κ.cls C)
  exs : ∀ p ∈ Γ.exs, PySem.W.exmOne κ.K (.ref (κ.cls p.1)) (.ref (κ.cls p.2)) = some true
  tb : ∀ t ∈ tabsK κ.K, LamX.TabB base mg t.1 t.2.1
  lm : Γ.lams ≠ [] → LamD κ.K Γ.lams
  sys : SysOk κ.K
  sd : Γ.kinds ≠ [] → Nonempty (SaidT κ.K mg κ.cls Γ.kinds)
  xv : ∀ p, Γ.xvs = some p → XvT κ.K mg κ.cls p.1 p.2.1 p.2.2

def lamB (N : List Str) : Bool := match N.getLast? with
  | some x => sEq x "<lambda>"
  | none => false
abbrev cnOf (X : Cx) (c : Nat → Addr) : Cn := ⟨X.prog, X.w, X.K, c⟩
def dotS (sc : Scope) : Bool := sc.names.any fun p => sEq p.1 (".0" : Str)
def blkD (N : List Str) (sc scope : Scope) (own : List (Str × Nat)) : Bool := blkC N sc scope own && dotS scope
theorem blkD_c {N : List Str} {sc scope : Scope} {own : List (Str × Nat)} (h : blkD N sc scope own = true) : blkC N sc scope own = true := ((Bool.and_eq_true ..).mp h).1
structure Good (Γ : Pg) (n : Nat) (c fa : Nat → Addr) (G : Fr) (N : List Str) (sc : Scope) (X : Cx) : Prop where
  hN : X.N = N
  hsc : X.env.scope = sc
  nd : X.N.Nodup
  calm : X.calm = true
  room : Room (2 * n + 1) X.A
  ng : NoG X.A
  envs : ∀ m, m ≤ n → EnvOk Γ (cnOf X c) X.mg X.base m fa
  ps : Passes (L2.CX X.prog X.w) X (EXK (cnOf X c) G)
  kind : X.env.scope.kind = .function
  lamc : Γ.inl = false → lamB N = true → Γ.lams ≠ [] ∧ ∃ cc P, X.env.code = .ref cc ∧ (cc, P, X.env.qual ++ "<lambda>") ∈ tabsK X.K
  /-- in a def itself, not in a block of it: what it may let out -/
  tp : Γ.inl = false → dotS sc = false → X.stack = X.env :: X.outer ∧ X.env.frame = some X.env.locals ∧ Takes X (fun cls d _ H => EXK (cnOf X c) G cls d H)
section
variable {Γ : Pg} {n : Nat} {c fa : Nat → Addr} {G : Fr} {N : List Str} {sc : Scope} {X : Cx}
theorem Good.env (g : Good Γ n c fa G N sc X) : EnvOk Γ (cnOf X c) X.mg X.base n fa := g.envs n (Nat.le_refl n)
theorem Good.u1 (g : Good Γ n c fa G N sc X) : X.A.units + 1 < cLine := hu_of g.room
theorem Good.u64 (g : Good Γ n c fa G N sc X) : X.A.units + 64 < cLine := g.room.units
theorem Good.u0 (g : Good Γ n c fa G N sc X) : X.A.units < cLine := g.room.units0
theorem Good.u65 (g : Good Γ n c fa G N sc X) : X.A.units + 65 < cLine := by have := g.room.un; omega
theorem Good.r0 (g : Good Γ n c fa G N sc X) : Room (2 * n) X.A := g.room.mono (by omega)
end

def REnv (κ : Cn) (F : Addr → Prop) (ρ : List Addr) (H : Hp) (σp : Env) (σ : St) : Prop := σp.length = σ.length ∧ ∀ (i : Nat) (p : PV), σp[i]? = some (some p) → ∃ v, σ[i]? = some (some v) ∧ RV κ F ρ H p v
def Out {α : Type} (κ : Cn) (G : Fr) (ρ : List Addr) (H : Hp) (r : Res α) (P : α → Store → List Addr → Hp → Prop) : Prop := match r with
  | .ok a st' => ∀ ρ' H', Ext ρ H ρ' H' → At κ G ρ' st' H' → P a st' ρ' H'
  | .exc e st' => G.Ex e st'
  | .bad => False
section
variable {α β : Type} {κ : Cn} {G : Fr} {F F' : Addr → Prop} {ρ ρ1 ρ' : List Addr} {H H1 H' : Hp} {st st1 st' : Store} {σp : Env} {σ : St}
theorem REnv.mono (m : Mono κ F ρ H F' ρ' H') (h : REnv κ F ρ H σp σ) : REnv κ F' ρ' H' σp σ := ⟨h.1, fun i p e => let ⟨v, e1, r⟩ := h.2 i p e; ⟨v, e1, r.mono m⟩⟩
theorem REnv.set (h : REnv κ F ρ H σp σ) {i : Nat} {p : PV} {v : V} (r : RV κ F ρ H p v) : REnv κ F ρ H (σp.set i (some p)) (σ.set i (some v)) := by
  refine ⟨by simp [h.1], fun j q e => ?_⟩
  by_cases hj : j = i
  · subst hj
    have hl : j < σp.length := by
      have := (List.getElem?_eq_some_iff.mp e).1
      simpa using this
    rw [List.getElem?_set_self hl] at e
    cases e
    exact ⟨v, by rw [List.getElem?_set_self (by rw [← h.1]; exact hl)], r⟩
  · rw [List.getElem?_set_ne (Ne.symm hj)] at e
    obtain ⟨w, e1, r1⟩ := h.2 j q e
    exact ⟨w, by rw [List.getElem?_set_ne (Ne.symm hj)]; exact e1, r1⟩
theorem Out.mono {r : Res α} {P P' : α → Store → List Addr → Hp → Prop} (o : Out κ G ρ H r P) (h : ∀ a st' ρ' H', Ext ρ H ρ' H' → At κ G ρ' st' H' → P a st' ρ' H' → P' a st' ρ' H') : Out κ G ρ H r P' := by
  cases r with
  | ok a st' => exact fun ρ' H' e A => h a st' ρ' H' e A (o ρ' H' e A)
  | exc e st' => exact o
  | bad => exact o
theorem Out.bind {r : Res α} {f : α → Store → Res β} {P : β → Store → List Addr → Hp → Prop} (o : Out κ G ρ H (r.bind f) P) : Out κ G ρ H r fun a st1 ρ1 H1 => Out κ G ρ1 H1 (f a st1) P := by
  cases r with
  | ok a st1 =>
    intro ρ1 H1 e1 A1
    have o : Out κ G ρ H (f a st1) P := o
    cases q : f a st1 with
    | ok b st2 =>
      rw [q] at o
      exact fun ρ2 H2 e2 A2 => o ρ2 H2 (e1.trans e2) A2
    | exc e st2 => rw [q] at o; exact o
    | bad => rw [q] at o; exact o
  | exc e st1 => exact o
  | bad => exact o
theorem Out.weak {r : Res α} {P : α → Store → List Addr → Hp → Prop} (e : Ext ρ H ρ1 H1) (o : Out κ G ρ H r P) : Out κ G ρ1 H1 r P := by
  cases r with
  | ok a st1 => exact fun ρ2 H2 e2 A2 => o ρ2 H2 (e.trans e2) A2
  | exc e st1 => exact o
  | bad => exact o
theorem Out.ret {a : α} {P : α → Store → List Addr → Hp → Prop} (o : Out κ G ρ H (.ok a st) P) (A : At κ G ρ st H) : P a st ρ H := o ρ H Ext.refl A
theorem Out.of {x : Option α} {P : α → Store → List Addr → Hp → Prop} (o : Out κ G ρ H (Res.of st x) P) : ∃ a, x = some a ∧ ∀ ρ' H', Ext ρ H ρ' H' → At κ G ρ' st H' → P a st ρ' H' := by
  cases x with
  | none => exact False.elim o
  | some a => exact ⟨a, rfl, o⟩
theorem At.step (A : At κ G ρ st H) (e : Ext ρ H ρ' H') (W : Wd κ G.B ρ' st' H') : At κ G ρ' st' H' := ⟨W, A.ext.trans e⟩
end

abbrev PQ (κ : Cn) (G : Fr) (Q : VK) : PV → Store → List Addr → Hp → Prop := fun v _ ρ' H' => ∀ u, RV κ (Fo G.B ρ') ρ' H' v u → Q u H'
def tE (κ : Cn) (G : Fr) (cs : CS) (d : DE) : TE := fun σ H Q => ∃ ρ st σp, At κ G ρ st H ∧ REnv κ (Fo G.B ρ) ρ H σp σ ∧ Out κ G ρ H (d cs σp st) (PQ κ G Q)
def SE (Γ : Pg) (N : List Str) (sc : Scope) (e : Expr) (d : DE) : Prop := ∀ (n : Nat) (c fa : Nat → Addr) (G : Fr) (X : Cx), Good Γ n c fa G N sc X → PE X e (tE (cnOf X c) G (callN Γ.tbl n) d)
def tT (κ : Cn) (G : Fr) (cs : CS) (d : DE) : TT := fun σ H Q => ∃ ρ st σp, At κ G ρ st H ∧ REnv κ (Fo G.B ρ) ρ H σp σ ∧ Out κ G ρ H (d cs σp st) fun v _ _ H' => ∃ b, v = .bl b ∧ Q b H'
def ST (Γ : Pg) (N : List Str) (sc : Scope) (e : Expr) (d : DE) : Prop := ∀ (n : Nat) (c fa : Nat → Addr) (G : Fr) (X : Cx), Good Γ n c fa G N sc X → PT X e (tT (cnOf X c) G (callN Γ.tbl n) d)
def SW (Γ : Pg) (N : List Str) (sc : Scope) (e : Expr) (d : DE) : Prop := ∀ (n : Nat) (c fa : Nat → Addr) (G : Fr) (X : Cx), Good Γ n c fa G N sc X → PW X e (tT (cnOf X c) G (callN Γ.tbl n) d)
def tA (κ : Cn) (G : Fr) (cs : CS) (d : DEs) : TA := fun σ H Q => ∃ ρ st σp, At κ G ρ st H ∧ REnv κ (Fo G.B ρ) ρ H σp σ ∧ Out κ G ρ H (d cs σp st) fun vs _ ρ' H' => ∀ us, RVs κ (Fo G.B ρ') ρ' H' vs us → Q us H'
def SA (Γ : Pg) (N : List Str) (sc : Scope) (es : List Expr) (d : DEs) : Prop := ∀ (n : Nat) (c fa : Nat → Addr) (G : Fr) (X : Cx), Good Γ n c fa G N sc X → PA X es (tA (cnOf X c) G (callN Γ.tbl n) d)

theorem _root_.L2.PE.imp {X : Cx} {e : Expr} {t t' : TE} (h : PE X e t) (i : ∀ σ H Q, t' σ H Q → t σ H Q) : PE X e t' := ⟨fun pins s σ H Q I q => h.run pins s σ H Q I (i σ H Q q)⟩
theorem _root_.L2.PT.imp {X : Cx} {e : Expr} {t t' : TT} (h : PT X e t) (i : ∀ σ H Q, t' σ H Q → t σ H Q) : PT X e t' := ⟨fun pins s σ H Q I q => h.run pins s σ H Q I (i σ H Q q)⟩
theorem _root_.L2.PW.imp {X : Cx} {e : Expr} {t t' : TT} (h : PW X e t) (i : ∀ σ H Q, t' σ H Q → t σ H Q) : PW X e t' := ⟨fun wh pins s σ H Q I q => h.run wh pins s σ H Q I (i σ H Q q)⟩
theorem _root_.L2.PA.imp {X : Cx} {e : List Expr} {t t' : TA} (h : PA X e t) (i : ∀ σ H Q, t' σ H Q → t σ H Q) : PA X e t' := ⟨fun pos pins s σ H Q I q => h.run pos pins s σ H Q I (i σ H Q q)⟩

section
variable {Γ : Pg} {n : Nat} {c fa : Nat → Addr} {G : Fr} {N : List Str} {sc : Scope} {X : Cx} {κ : Cn} {cs : CS}
variable {a b e : Expr} {da db d : DE} {pos : Pos}

theorem tE_bind {σ : St} {H : Hp} {Q : VK} {ρ : List Addr} {st : Store} {σp : Env} {β : Type} {f : PV → Store → Res β} {P : β → Store → List Addr → Hp → Prop} (A : At κ G ρ st H) (R : REnv κ (Fo G.B ρ) ρ H σp σ) (o : Out κ G ρ H ((d cs σp st).bind f) P)
    (h : ∀ v st1 ρ1 H1 u, Ext ρ H ρ1 H1 → At κ G ρ1 st1 H1 → REnv κ (Fo G.B ρ1) ρ1 H1 σp σ → RV κ (Fo G.B ρ1) ρ1 H1 v u → Out κ G ρ1 H1 (f v st1) P → Q u H1) : tE κ G cs d σ H Q :=
  ⟨ρ, st, σp, A, R, o.bind.mono fun v st1 ρ1 H1 e1 A1 o1 u r => h v st1 ρ1 H1 u e1 A1 (R.mono e1.mono) r o1⟩
theorem tA_bind {σ : St} {H : Hp} {Q : List V → Hp → Prop} {ρ : List Addr} {st : Store} {σp : Env} {β : Type} {d : DEs} {f : List PV → Store → Res β} {P : β → Store → List Addr → Hp → Prop} (A : At κ G ρ st H) (R : REnv κ (Fo G.B ρ) ρ H σp σ) (o : Out κ G ρ H ((d cs σp st).bind f) P)
    (h : ∀ v st1 ρ1 H1 u, Ext ρ H ρ1 H1 → At κ G ρ1 st1 H1 → REnv κ (Fo G.B ρ1) ρ1 H1 σp σ → RVs κ (Fo G.B ρ1) ρ1 H1 v u → Out κ G ρ1 H1 (f v st1) P → Q u H1) : tA κ G cs d σ H Q :=
  ⟨ρ, st, σp, A, R, o.bind.mono fun v st1 ρ1 H1 e1 A1 o1 u r => h v st1 ρ1 H1 u e1 A1 (R.mono e1.mono) r o1⟩
theorem tT_bind {σ : St} {H : Hp} {Q : Bool → Hp → Prop} {ρ : List Addr} {st : Store} {σp : Env} {β : Type} {f : PV → Store → Res β} {P : β → Store → List Addr → Hp → Prop} (A : At κ G ρ st H) (R : REnv κ (Fo G.B ρ) ρ H σp σ) (o : Out κ G ρ H ((d cs σp st).bind f) P)
    (h : ∀ v st1 ρ1 H1, Ext ρ H ρ1 H1 → At κ G ρ1 st1 H1 → REnv κ (Fo G.B ρ1) ρ1 H1 σp σ → Out κ G ρ1 H1 (f v st1) P → ∃ b, v = .bl b ∧ Q b H1) : tT κ G cs d σ H Q :=
  ⟨ρ, st, σp, A, R, o.bind.mono fun v st1 ρ1 H1 e1 A1 o1 => h v st1 ρ1 H1 e1 A1 (R.mono e1.mono) o1⟩


theorem SE.const {v : PV} {u : V} (h : ∀ X : Cx, PE X e (tC u)) (hv : ∀ κ F ρ H, RV κ F ρ H v u) : SE Γ N sc e (D.c v) := fun n c fa G X g =>
  (h X).imp fun σ H Q ⟨ρ, st, σp, A, R, o⟩ => o.ret A u (hv _ _ _ _)
theorem SE.int {i : Int} {j p} : SE Γ N sc (.Constant (.int i) j p) (D.c (.int i))   := .const (fun X => pe_int) fun _ _ _ _ => by simp only [RV]
theorem SE.bl {i : Bool} {j p} : SE Γ N sc (.Constant (.bool i) j p) (D.c (.bl i))   := .const (fun X => pe_bl) fun _ _ _ _ => by simp only [RV]
theorem SE.non {j p} : SE Γ N sc (.Constant .none j p) (D.c .non)   := .const (fun X => pe_non) fun _ _ _ _ => by simp only [RV]
theorem SE.str {x y : Str} {j p} (h : x = y) : SE Γ N sc (.Constant (.str x) j p) (D.c (.str y)) := by
  subst h
  exact .const (fun X => pe_str) fun _ _ _ _ => by simp only [RV]
def VisB (sc : Scope) (x : Str) : Bool := match sc.names.lookup x with
  | some .local => true
  | some .cell => true
  | some .free => true
  | _ => false
theorem vis_of {x : Str} (h : VisB sc x = true) : Vis sc x := by
  unfold VisB at h
  unfold Vis
  cases q : sc.names.lookup x with
  | none => rw [q] at h; cases h
  | some k => cases k <;> simp_all
def nameOk (x : Str) : Bool := !(x == ("__debug__" : Str)) && !(x == ("__classdict__" : Str)) && !(x == ("__name__" : Str))
theorem nameOk_d {x : Str} (h : nameOk x = true) : (x == ("__debug__" : Str)) = false := by
  unfold nameOk at h; simp only [Bool.and_eq_true, Bool.not_eq_true'] at h; exact h.1.1
theorem nameOk_c {x : Str} (h : nameOk x = true) : (x == ("__classdict__" : Str)) = false := by
  unfold nameOk at h; simp only [Bool.and_eq_true, Bool.not_eq_true'] at h; exact h.1.2
theorem nameOk_n {x : Str} (h : nameOk x = true) : x ≠ ("__name__" : Str) := by
  unfold nameOk at h; simp only [Bool.and_eq_true, Bool.not_eq_true'] at h
  intro e
  have := h.2
  rw [e] at this
  simp at this
def okVar (N : List Str) (sc : Scope) (i : Nat) (x : Str) : Bool := decide (N[i]? = some x) && VisB sc x && nameOk x
theorem SE.var {i : Nat} {x : Str} {p : Pos} (h : okVar N sc i x = true) : SE Γ N sc (.Name x p) (D.var i) := fun n c fa G X g => by
  unfold okVar at h
  simp only [Bool.and_eq_true, decide_eq_true_eq] at h
  refine (pe_var (i := i) (by rw [g.hN]; exact h.1.1) (by rw [g.hsc]; exact vis_of h.1.2) (nameOk_d h.2) (nameOk_c h.2)).imp ?_
  rintro σ H Q ⟨ρ, st, σp, A, R, o⟩
  unfold D.var at o
  split at o
  · rename_i p e
    obtain ⟨v, e1, r⟩ := R.2 _ _ e
    exact ⟨v, e1, o.ret A v r⟩
  · exact o.elim
theorem gl_of {x : Str} (g : Good Γ n c fa G N sc X) (h : GlB sc x = true) : Gl X x := by
  unfold GlB at h
  show X.env.scope.names.lookup x = some .globalImplicit
  rw [g.hsc]
  cases q : sc.names.lookup x with
  | none => rw [q] at h; cases h
  | some k => cases k <;> simp_all
theorem SE.glob {x : Str} {v : PV} {p : Pos} (h : (GlB sc x && nameOk x) = true) (hc : Γ.consts x = some v) : SE Γ N sc (.Name x p) (D.c v) := fun n c fa G X g => by
  simp only [Bool.and_eq_true] at h
  obtain ⟨u, w, hm, r, hv⟩ := g.env.ct x v hc
  refine (pe_glob (gl_of g h.1) hm r (nameOk_d h.2)).imp ?_
  rintro σ H Q ⟨ρ, st, σp, A, R, o⟩
  exact o.ret A w (hv _ _ _)


theorem SA.nil : SA Γ N sc [] D.nil := fun n c fa G X g => pa_nil.imp fun σ H Q ⟨ρ, st, σp, A, R, o⟩ => o.ret A [] RVs.nil
theorem SA.cons {es : List Expr} {ds : DEs} (ha : SE Γ N sc a da) (hs : SA Γ N sc es ds) (hst : ∀ env, starEach (a :: es) env = (false, eval a env) :: starEach es env := by intro _; rfl) : SA Γ N sc (a :: es) (D.cons da ds) := fun n c fa G X g => by
  refine (pa_cons (ha n c fa G X g) (hs n c fa G X g) (hst _)).imp ?_
  rintro σ H Q ⟨ρ, st, σp, A, R, o⟩
  refine tE_bind A R o fun v st1 ρ1 H1 u e1 A1 R1 r o1 => ?_
  refine tA_bind A1 R1 o1 fun vs st2 ρ2 H2 us e2 A2 R2 rs o2 => ?_
  exact o2.ret A2 _ (RVs.cons (r.mono e2.mono) rs)
theorem big : 1000000 ≤ sizeLine := by decide +kernel
theorem SE.tup {es : List Expr} {ds : DEs} {x} (hs : SA Γ N sc es ds) : SE Γ N sc (.Tuple es x pos) (D.tup ds) := fun n c fa G X g => by
  refine (pe_tupF (hs n c fa G X g)).imp ?_
  rintro σ H Q ⟨ρ, st, σp, A, R, o⟩
  refine tA_bind A R o fun vs st1 ρ1 H1 us e1 A1 R1 rs o1 => ?_
  split at o1
  · rename_i hl
    refine ⟨by rw [← rs.length]; exact Nat.le_trans hl big, fun p ob hp od => ?_⟩
    have e2 : Ext ρ1 H1 ρ1 (upd H1 p (.frz ob (.tup us))) := ext_new hp
    refine o1 ρ1 _ e2 (A1.step e2 (A1.wd.new hp)) _ ?_
    simp only [RV]
    exact ⟨p, us, rfl, .inl ⟨ob, od, upd_same⟩, rs.mono e2.mono⟩
  · exact o1.elim


def tF (κ : Cn) (G : Fr) (cs : CS) (d : DE) : TE := fun σ H Q => ∃ ρ st σp, At κ G ρ st H ∧ REnv κ (Fo G.B ρ) ρ H σp σ ∧ Out κ G ρ H (d cs σp st) fun v st' ρ' H' => ∃ ps, v = .lst ps ∧
  ∀ us p, RVs κ (Fo G.B ρ') ρ' H' ps us → H' p = none → Q (.ref p) (upd H' p (.lst us))
def SEF (Γ : Pg) (N : List Str) (sc : Scope) (e : Expr) (d : DE) : Prop := ∀ (n : Nat) (c fa : Nat → Addr) (G : Fr) (X : Cx), Good Γ n c fa G N sc X → PE X e (tF (cnOf X c) G (callN Γ.tbl n) d)
def LstOnly (d : DE) : Prop := ∀ cs σ st v st', d cs σ st = .ok v st' → ∃ ps, v = .lst ps
theorem tF_val (hl : LstOnly d) : ∀ σ H Q, tE κ G cs d σ H Q → tF κ G cs d σ H Q := by
  rintro σ H Q ⟨ρ, st, σp, A, R, o⟩
  refine ⟨ρ, st, σp, A, R, ?_⟩
  cases q : d (cs) σp st with
  | ok v st' =>
    obtain ⟨ps, rfl⟩ := hl _ _ _ _ _ q
    rw [q] at o
    intro ρ' H' e' A'
    refine ⟨ps, rfl, fun us p rs hp => ?_⟩
    have e2 : Ext ρ' H' ρ' (upd H' p (.lst us)) := ext_new hp
    refine o ρ' _ (e'.trans e2) (A'.step e2 (A'.wd.new hp)) _ ?_
    simp only [RV]
    exact ⟨p, us, rfl, upd_same, A'.wd.fo hp, rs.mono e2.mono⟩
  | exc e st' => rw [q] at o; exact o
  | bad => rw [q] at o; exact o
theorem SEF.val (h : SEF Γ N sc e d) (hl : LstOnly d) : SE Γ N sc e d := fun n c fa G X g => (h n c fa G X g).imp (tF_val hl)
theorem tF_fresh (hl : LstOnly d) : ∀ σ H Q, tE κ G cs (D.fresh d) σ H Q → tF κ G cs d σ H Q := by
  rintro σ H Q ⟨ρ, st, σp, A, R, o⟩
  refine ⟨ρ, st, σp, A, R, ?_⟩
  unfold D.fresh at o
  cases q : d (cs) σp st with
  | ok v st' =>
    obtain ⟨ps, rfl⟩ := hl _ _ _ _ _ q
    rw [q] at o
    intro ρ' H' e' A'
    refine ⟨ps, rfl, fun us p rs hp => ?_⟩
    have e2 : Ext ρ' H' (ρ' ++ [p]) (upd H' p (.lst us)) := ext_add hp _ rfl
    refine o _ _ (e'.trans e2) (A'.step e2 (A'.wd.add hp ⟨us, upd_same, rs.mono e2.mono⟩)) _ ?_
    simp only [RV]
    exact ⟨p, rfl, by rw [← A'.wd.len]; simp⟩
  | exc e st' => rw [q] at o; exact o
  | bad => rw [q] at o; exact o
theorem SEF.fresh (h : SEF Γ N sc e d) (hl : LstOnly d) : SE Γ N sc e (D.fresh d) := fun n c fa G X g => (h n c fa G X g).imp (tF_fresh hl)
theorem SEF.lst {es : List Expr} {ds : DEs} (hs : SA Γ N sc es ds) : SEF Γ N sc (.List es pos) (D.lst ds) := fun n c fa G X g => by
  refine (pe_lst (hs n c fa G X g)).imp ?_
  rintro σ H Q ⟨ρ, st, σp, A, R, o⟩
  refine tA_bind A R o fun vs st1 ρ1 H1 us e1 A1 R1 rs o1 => ?_
  split at o1
  · rename_i hl
    refine ⟨by rw [← rs.length]; exact Nat.le_trans hl big, fun p hp => ?_⟩
    obtain ⟨ps, e, h⟩ := o1.ret A1
    cases e
    exact h us p rs hp
  · exact o1.elim
theorem lstOnly_bind {α : Type} {r : Res α} {f : α → Store → Res PV} {v : PV} {st' : Store} (h : r.bind f = .ok v st') (k : ∀ a st, r = .ok a st → f a st = .ok v st' → ∃ ps, v = .lst ps) : ∃ ps, v = .lst ps := by
  cases r with
  | ok a st => exact k a st rfl h
  | exc e st => cases h
  | bad => cases h
theorem lo_lst {ds : DEs} : LstOnly (D.lst ds) := fun cs σ st v st' h => lstOnly_bind h fun a st1 _ q => by
  split at q
  · cases q; exact ⟨_, rfl⟩
  · cases q
theorem SE.lst {es : List Expr} {ds : DEs} (hs : SA Γ N sc es ds) : SE Γ N sc (.List es pos) (D.lst ds) := (SEF.lst hs).val lo_lst


theorem SE.and1 {op} (h : SE Γ N sc a da) : SE Γ N sc (.BoolOp op [a] pos) da := fun n c fa G X g => pe_one (h n c fa G X g)
theorem rv_bl {F : Addr → Prop} {ρ : List Addr} {H : Hp} {b : Bool} {u : V} (h : RV κ F ρ H (.bl b) u) : u = .bl b := by simpa only [RV] using h
theorem rv_int {F : Addr → Prop} {ρ : List Addr} {H : Hp} {b : Int} {u : V} (h : RV κ F ρ H (.int b) u) : u = .int b := by simpa only [RV] using h
theorem rv_str {F : Addr → Prop} {ρ : List Addr} {H : Hp} {b : Str} {u : V} (h : RV κ F ρ H (.str b) u) : u = .str b := by simpa only [RV] using h
theorem rv_non {F : Addr → Prop} {ρ : List Addr} {H : Hp} {u : V} (h : RV κ F ρ H .non u) : u = .non := by simpa only [RV] using h
theorem SE.and {rest : List Expr} (ha : SE Γ N sc a da) (hb : SE Γ N sc (.BoolOp .And (b :: rest) pos) db) : SE Γ N sc (.BoolOp .And (a :: b :: rest) pos) (D.and da db) := fun n c fa G X g => by
  refine (pe_and (ha n c fa G X g) (hb n c fa G X g)).imp ?_
  rintro σ H Q ⟨ρ, st, σp, A, R, o⟩
  refine tE_bind A R o fun v st1 ρ1 H1 u e1 A1 R1 r o1 => ?_
  split at o1
  · exact ⟨true, rv_bl r, ⟨ρ1, st1, σp, A1, R1, o1⟩⟩
  · exact ⟨false, rv_bl r, o1.ret A1 _ (by simp only [RV])⟩
  · exact o1.elim
theorem SE.or {rest : List Expr} (ha : SE Γ N sc a da) (hb : SE Γ N sc (.BoolOp .Or (b :: rest) pos) db) : SE Γ N sc (.BoolOp .Or (a :: b :: rest) pos) (D.or da db) := fun n c fa G X g => by
  refine (pe_or (ha n c fa G X g) (hb n c fa G X g)).imp ?_
  rintro σ H Q ⟨ρ, st, σp, A, R, o⟩
  refine tE_bind A R o fun v st1 ρ1 H1 u e1 A1 R1 r o1 => ?_
  split at o1
  · exact ⟨true, rv_bl r, o1.ret A1 _ (by simp only [RV])⟩
  · exact ⟨false, rv_bl r, ⟨ρ1, st1, σp, A1, R1, o1⟩⟩
  · exact o1.elim
theorem SE.not (ha : SE Γ N sc a da) : SE Γ N sc (.UnaryOp .Not a pos) (D.not da) := fun n c fa G X g => by
  refine (pe_not (ha n c fa G X g)).imp ?_
  rintro σ H Q ⟨ρ, st, σp, A, R, o⟩
  refine tE_bind A R o fun v st1 ρ1 H1 u e1 A1 R1 r o1 => ?_
  split at o1
  · exact ⟨_, rv_bl r, o1.ret A1 _ (by simp only [RV])⟩
  · exact o1.elim

theorem ST.val (ha : SE Γ N sc a da) (he : ∀ env whole, PySem.isTrue a env whole = (do let v ← whole; standAt a.pos; holding [v] (truthy v)) := by intro _ _; rfl) : ST Γ N sc a da := fun n c fa G X g => by
  refine (pt_val (ha n c fa G X g) (he _)).imp ?_
  rintro σ H Q ⟨ρ, st, σp, A, R, o⟩
  refine ⟨ρ, st, σp, A, R, o.mono fun v st1 ρ1 H1 e1 A1 ⟨b, e, q⟩ u r => ?_⟩
  subst e
  exact ⟨b, rv_bl r, q⟩
theorem ST.not (ha : ST Γ N sc a da) : ST Γ N sc (.UnaryOp .Not a pos) (D.not da) := fun n c fa G X g => by
  refine (pt_not (ha n c fa G X g)).imp ?_
  rintro σ H Q ⟨ρ, st, σp, A, R, o⟩
  refine tT_bind A R o fun v st1 ρ1 H1 e1 A1 R1 o1 => ?_
  split at o1
  · obtain ⟨b', e, q⟩ := o1.ret A1
    cases e
    exact ⟨_, rfl, q⟩
  · exact o1.elim
theorem SW.and1 (h : ST Γ N sc a da) : SW Γ N sc (.BoolOp .And [a] pos) da := fun n c fa G X g => pw_and1 (h n c fa G X g)
theorem SW.or1 (h : ST Γ N sc a da) : SW Γ N sc (.BoolOp .Or [a] pos) da := fun n c fa G X g => pw_or1 (h n c fa G X g)
theorem SW.and {rest : List Expr} (ha : ST Γ N sc a da) (hb : SW Γ N sc (.BoolOp .And (b :: rest) pos) db) : SW Γ N sc (.BoolOp .And (a :: b :: rest) pos) (D.and da db) := fun n c fa G X g => by
  refine (pw_and (ha n c fa G X g) (hb n c fa G X g)).imp ?_
  rintro σ H Q ⟨ρ, st, σp, A, R, o⟩
  refine tT_bind A R o fun v st1 ρ1 H1 e1 A1 R1 o1 => ?_
  split at o1
  · exact ⟨true, rfl, ⟨ρ1, st1, σp, A1, R1, o1⟩⟩
  · obtain ⟨b', e, q⟩ := o1.ret A1
    cases e
    exact ⟨false, rfl, q⟩
  · exact o1.elim
theorem SW.or {rest : List Expr} (ha : ST Γ N sc a da) (hb : SW Γ N sc (.BoolOp .Or (b :: rest) pos) db) : SW Γ N sc (.BoolOp .Or (a :: b :: rest) pos) (D.or da db) := fun n c fa G X g => by
  refine (pw_or (ha n c fa G X g) (hb n c fa G X g)).imp ?_
  rintro σ H Q ⟨ρ, st, σp, A, R, o⟩
  refine tT_bind A R o fun v st1 ρ1 H1 e1 A1 R1 o1 => ?_
  split at o1
  · obtain ⟨b', e, q⟩ := o1.ret A1
    cases e
    exact ⟨true, rfl, q⟩
  · exact ⟨false, rfl, ⟨ρ1, st1, σp, A1, R1, o1⟩⟩
  · exact o1.elim
theorem SW.st (h : SW Γ N sc a da) : ST Γ N sc a da := fun n c fa G X g => (h n c fa G X g).pt
theorem SE.ite {t : Expr} {dt : DE} (ht : ST Γ N sc t dt) (ha : SE Γ N sc a da) (hb : SE Γ N sc b db) : SE Γ N sc (.IfExp t a b pos) (D.ite dt da db) := fun n c fa G X g => by
  refine (pe_ifExp (ht n c fa G X g) (ha n c fa G X g) (hb n c fa G X g)).imp ?_
  rintro σ H Q ⟨ρ, st, σp, A, R, o⟩
  refine tT_bind A R o fun v st1 ρ1 H1 e1 A1 R1 o1 => ?_
  split at o1
  · exact ⟨true, rfl, ⟨ρ1, st1, σp, A1, R1, o1⟩⟩
  · exact ⟨false, rfl, ⟨ρ1, st1, σp, A1, R1, o1⟩⟩
  · exact o1.elim
end
end Dn


namespace Dn
open PySem L2

def RR (κ : Cn) (F : Addr → Prop) (ρ : List Addr) (H : Hp) : PV → V → Prop
  | .lst ps, v => ∃ a xs, v = .ref a ∧ H a = some (.lst xs) ∧ RVs κ F ρ H ps xs
  | .dic false kvs, v => ∃ a es, v = .ref a ∧ Rd H a (.dK es) ∧ RKs κ F ρ H kvs es
  | .dic true kvs, v => ∃ a es, v = .ref a ∧ Rd H a (dTO κ a es) ∧ RTs κ F ρ H kvs es
  | p, v => RV κ F ρ H p v
section
variable {κ : Cn} {G : Fr} {B : Addr → Prop} {F : Addr → Prop} {ρ ρ' : List Addr} {H H' : Hp} {st : Store}
theorem RR.of' {p : PV} {v : V} (h : RV κ F ρ H p v) : RR κ F ρ H p v := by
  cases p with
  | lst ps =>
    simp only [RV] at h
    obtain ⟨a, xs, e, h1, _, h2⟩ := h
    exact ⟨a, xs, e, h1, h2⟩
  | dic t kvs =>
    cases t <;>
    · simp only [RV] at h
      obtain ⟨a, xs, e, h1, _, h2⟩ := h
      exact ⟨a, xs, e, .inl h1, h2⟩
  | _ => exact h
theorem RR.of (W : Wd κ B ρ st H) {p : PV} {v : V} (h : RV κ (Fo B ρ) ρ H p v) : RR κ (Fo B ρ) ρ H (deref st p) v := by
  cases p with
  | ref n =>
    simp only [RV] at h
    obtain ⟨a, rfl, h1⟩ := h
    show RR κ (Fo B ρ) ρ H (match st[n]? with | some (.lst xs) => .lst xs | some (.dic t kvs) => .dic t kvs | some (.frd t kvs) => .dic t kvs | _ => .ref n) _
    cases q : st[n]? with
    | none => exact ⟨a, rfl, h1⟩
    | some o =>
      have := W.ob n o a q h1
      cases o with
      | lst ps => obtain ⟨xs, e1, e2⟩ := this; exact ⟨a, xs, rfl, e1, e2⟩
      | dic t kvs => cases t <;> (obtain ⟨xs, e1, e2⟩ := this; exact ⟨a, xs, rfl, .inl e1, e2⟩)
      | frd t kvs => cases t <;> (obtain ⟨o, xs, e1, e2⟩ := this; exact ⟨a, xs, rfl, .inr ⟨o, e1⟩, e2⟩)
      | ins c fs => exact ⟨a, rfl, h1⟩
      | exo c fs => exact ⟨a, rfl, h1⟩
  | _ => exact RR.of' h

def OpS (κ : Cn) (G : Fr) (f : PV → PV → Option PV) (r : R2) : Prop := ∀ ρ st H p q v x y Q, At κ G ρ st H → RR κ (Fo G.B ρ) ρ H p x → RR κ (Fo G.B ρ) ρ H q y → f p q = some v →
  (∀ ρ' H' u, Ext ρ H ρ' H' → At κ G ρ' st H' → RV κ (Fo G.B ρ') ρ' H' v u → Q u H') → r x y H Q
def UnS (κ : Cn) (G : Fr) (f : PV → Option PV) (r : V → Hp → VK → Prop) : Prop := ∀ ρ st H p v x Q, At κ G ρ st H → RR κ (Fo G.B ρ) ρ H p x → f p = some v →
  (∀ ρ' H' u, Ext ρ H ρ' H' → At κ G ρ' st H' → RV κ (Fo G.B ρ') ρ' H' v u → Q u H') → r x H Q
end
section
variable {Γ : Pg} {n : Nat} {c fa : Nat → Addr} {G : Fr} {N : List Str} {sc : Scope} {X : Cx} {κ : Cn} {cs : CS}
variable {a b e d : Expr} {da db dd : DE} {pos : Pos}
def Op2 (Γ : Pg) (N : List Str) (sc : Scope) (fn : Value → Value → Sem Value) (f : PV → PV → Option PV) : Prop := ∀ (n : Nat) (c fa : Nat → Addr) (G : Fr) (X : Cx), Good Γ n c fa G N sc X → ∃ r, OpR X fn r ∧ OpS (cnOf X c) G f r
def Op1 (Γ : Pg) (N : List Str) (sc : Scope) (fn : Value → Sem Value) (f : PV → Option PV) : Prop := ∀ (n : Nat) (c fa : Nat → Addr) (G : Fr) (X : Cx), Good Γ n c fa G N sc X → ∃ r, UnR X fn r ∧ UnS (cnOf X c) G f r
theorem op2_read {r : R2} {f : PV → PV → Option PV} (s : OpS κ G f r) {σ : St} {H : Hp} {Q : VK} (h : tE κ G cs (D.op2 f da db) σ H Q) : tOp r (tE κ G cs da) (tE κ G cs db) σ H Q := by
  obtain ⟨ρ, st, σp, A, R, o⟩ := h
  refine tE_bind A R o fun v st1 ρ1 H1 u e1 A1 R1 ru o1 => ?_
  refine tE_bind A1 R1 o1 fun w st2 ρ2 H2 z e2 A2 R2 rz o2 => ?_
  obtain ⟨res, ef, k⟩ := o2.of
  exact s ρ2 st2 H2 _ _ res u z Q A2 (RR.of A2.wd (ru.mono e2.mono)) (RR.of A2.wd rz) ef fun ρ' H' u' e' A' r' => k ρ' H' e' A' u' r'
theorem op1_read {r : V → Hp → VK → Prop} {f : PV → Option PV} (s : UnS κ G f r) {σ : St} {H : Hp} {Q : VK} (h : tE κ G cs (D.op1 f da) σ H Q) : tUn r (tE κ G cs da) σ H Q := by
  obtain ⟨ρ, st, σp, A, R, o⟩ := h
  refine tE_bind A R o fun v st1 ρ1 H1 u e1 A1 R1 ru o1 => ?_
  obtain ⟨res, ef, k⟩ := o1.of
  exact s ρ1 st1 H1 _ res u Q A1 (RR.of A1.wd ru) ef fun ρ' H' u' e' A' r' => k ρ' H' e' A' u' r'
theorem SE.bin {op : Operator} {f : PV → PV → Option PV} (h : Op2 Γ N sc (binaryOp op) f) (ha : SE Γ N sc a da) (hb : SE Γ N sc b db) : SE Γ N sc (.BinOp a op b pos) (D.op2 f da db) := fun n c fa G X g => by
  obtain ⟨r, h1, h2⟩ := h n c fa G X g
  exact (pe_op h1 (ha n c fa G X g) (hb n c fa G X g)).imp fun σ H Q q => op2_read h2 q
theorem SE.cmp {op : CmpOp} {f : PV → PV → Option PV} (h : Op2 Γ N sc (compareOp op) f) (ha : SE Γ N sc a da) (hb : SE Γ N sc b db) (hm : behindInMarks op b = false) : SE Γ N sc (.Compare a [op] [b] pos) (D.op2 f da db) := fun n c fa G X g => by
  obtain ⟨r, h1, h2⟩ := h n c fa G X g
  exact (pe_cmpR h1 (ha n c fa G X g) (hb n c fa G X g) hm).imp fun σ H Q q => op2_read h2 q
theorem tT_test {t : TE} {d : DE} (i : ∀ σ H Q, tE κ G cs d σ H Q → t σ H Q) {σ : St} {H : Hp} {Q : Bool → Hp → Prop} (h : tT κ G cs d σ H Q) : tTest t σ H Q := by
  obtain ⟨ρ, st, σp, A, R, o⟩ := h
  refine i σ H _ ⟨ρ, st, σp, A, R, o.mono fun v st1 ρ1 H1 e1 A1 ⟨b, e, q⟩ u r => ?_⟩
  subst e
  exact ⟨b, rv_bl r, q⟩
theorem ST.cmp {op : CmpOp} {f : PV → PV → Option PV} (h : Op2 Γ N sc (compareOp op) f) (ha : SE Γ N sc a da) (hb : SE Γ N sc b db) (hm : behindInMarks op b = false) : ST Γ N sc (.Compare a [op] [b] pos) (D.op2 f da db) := fun n c fa G X g => by
  obtain ⟨r, h1, h2⟩ := h n c fa G X g
  exact (pt_cmpR h1 (ha n c fa G X g) (hb n c fa G X g) hm).imp fun σ H Q q => tT_test (fun σ H Q q => op2_read h2 q) q
theorem SE.un {op : UnaryOp} {f : PV → Option PV} (h : Op1 Γ N sc (unaryOp op) f) (ha : SE Γ N sc a da) : SE Γ N sc (.UnaryOp op a pos) (D.op1 f da) := fun n c fa G X g => by
  obtain ⟨r, h1, h2⟩ := h n c fa G X g
  exact (pe_un h1 (ha n c fa G X g)).imp fun σ H Q q => op1_read h2 q
theorem chain_read {r r' : R2} {f f' : PV → PV → Option PV} (s : OpS κ G f r) (s' : OpS κ G f' r') {σ : St} {H : Hp} {Q : VK} (h : tE κ G cs (D.chain f f' da db dd) σ H Q) : tChain r r' (tE κ G cs da) (tE κ G cs db) (tE κ G cs dd) σ H Q := by
  obtain ⟨ρ, st, σp, A, R, o⟩ := h
  refine tE_bind A R o fun v st1 ρ1 H1 u e1 A1 R1 ru o1 => ?_
  refine tE_bind A1 R1 o1 fun w st2 ρ2 H2 z e2 A2 R2 rz o2 => ?_
  obtain ⟨res, ef, k⟩ := o2.bind.of
  refine s ρ2 st2 H2 _ _ res u z _ A2 (RR.of A2.wd (ru.mono e2.mono)) (RR.of A2.wd rz) ef fun ρ3 H3 u' e3 A3 r3 => ?_
  have o3 := k ρ3 H3 e3 A3
  split at o3
  · refine ⟨true, rv_bl r3, ?_⟩
    refine tE_bind A3 (R2.mono e3.mono) o3 fun t st4 ρ4 H4 y e4 A4 R4 ry o4 => ?_
    obtain ⟨res', ef', k'⟩ := o4.of
    exact s' ρ4 st4 H4 _ _ res' z y Q A4 (RR.of A4.wd ((rz.mono e3.mono).mono e4.mono)) (RR.of A4.wd ry) ef' fun ρ' H' u' e' A' r' => k' ρ' H' e' A' u' r'
  · exact ⟨false, rv_bl r3, o3.ret A3 _ (by simp only [RV])⟩
  · exact o3.elim
theorem SE.chain {op op' : CmpOp} {f f' : PV → PV → Option PV} (h : Op2 Γ N sc (compareOp op) f) (h' : Op2 Γ N sc (compareOp op') f') (ha : SE Γ N sc a da) (hb : SE Γ N sc b db) (hd : SE Γ N sc d dd) (hl : lastMarks [op, op'] [b, d] = false) :
    SE Γ N sc (.Compare a [op, op'] [b, d] pos) (D.chain f f' da db dd) := fun n c fa G X g => by
  obtain ⟨r, h1, h2⟩ := h n c fa G X g
  obtain ⟨r', h1', h2'⟩ := h' n c fa G X g
  exact (pe_chain h1 h1' (ha n c fa G X g) (hb n c fa G X g) (hd n c fa G X g) hl).imp fun σ H Q q => chain_read h2 h2' q
theorem ST.chain {op op' : CmpOp} {f f' : PV → PV → Option PV} (h : Op2 Γ N sc (compareOp op) f) (h' : Op2 Γ N sc (compareOp op') f') (ha : SE Γ N sc a da) (hb : SE Γ N sc b db) (hd : SE Γ N sc d dd) (hl : lastMarks [op, op'] [b, d] = false) :
    ST Γ N sc (.Compare a [op, op'] [b, d] pos) (D.chain f f' da db dd) := fun n c fa G X g => by
  obtain ⟨r, h1, h2⟩ := h n c fa G X g
  obtain ⟨r', h1', h2'⟩ := h' n c fa G X g
  exact (pt_chain h1 h1' (ha n c fa G X g) (hb n c fa G X g) (hd n c fa G X g) hl).imp fun σ H Q q => tT_test (fun σ H Q q => chain_read h2 h2' q) q


theorem rr_int {F : Addr → Prop} {ρ : List Addr} {H : Hp} {i : Int} {u : V} (h : RR κ F ρ H (.int i) u) : u = .int i := by simpa only [RR, RV] using h
theorem rr_bl {F : Addr → Prop} {ρ : List Addr} {H : Hp} {i : Bool} {u : V} (h : RR κ F ρ H (.bl i) u) : u = .bl i := by simpa only [RR, RV] using h
theorem rr_str {F : Addr → Prop} {ρ : List Addr} {H : Hp} {i : Str} {u : V} (h : RR κ F ρ H (.str i) u) : u = .str i := by simpa only [RR, RV] using h
theorem rr_non {F : Addr → Prop} {ρ : List Addr} {H : Hp} {u : V} (h : RR κ F ρ H .non u) : u = .non := by simpa only [RR, RV] using h
theorem rr_tup {F : Addr → Prop} {ρ : List Addr} {H : Hp} {ps : List PV} {u : V} (h : RR κ F ρ H (.tup ps) u) : ∃ a xs, u = .ref a ∧ SqT κ.K H a xs ∧ RVs κ F ρ H ps xs := by
  obtain ⟨a, xs, e, h1, h2⟩ : ∃ a xs, u = .ref a ∧ SqD κ.K H a xs ∧ RVs κ F ρ H ps xs := by simpa only [RR, RV] using h
  exact ⟨a, xs, e, h1.sqT, h2⟩
theorem rr_tupD {F : Addr → Prop} {ρ : List Addr} {H : Hp} {ps : List PV} {u : V} (h : RR κ F ρ H (.tup ps) u) : ∃ a xs, u = .ref a ∧ SqD κ.K H a xs ∧ RVs κ F ρ H ps xs := by simpa only [RR, RV] using h
theorem rr_lst {F : Addr → Prop} {ρ : List Addr} {H : Hp} {ps : List PV} {u : V} (h : RR κ F ρ H (.lst ps) u) : ∃ a xs, u = .ref a ∧ H a = some (.lst xs) ∧ RVs κ F ρ H ps xs := h
theorem OpS.or {f : PV → PV → Option PV} {r r' : R2} (h : ∀ ρ st H p q v x y Q, At κ G ρ st H → RR κ (Fo G.B ρ) ρ H p x → RR κ (Fo G.B ρ) ρ H q y → f p q = some v →
    (∀ ρ' H' u, Ext ρ H ρ' H' → At κ G ρ' st H' → RV κ (Fo G.B ρ') ρ' H' v u → Q u H') → r x y H Q ∨ r' x y H Q) : OpS κ G f (fun x y H Q => r x y H Q ∨ r' x y H Q) := h
theorem now {ρ : List Addr} {st : Store} {H : Hp} {v : PV} {Q : VK} {u : V} (A : At κ G ρ st H) (k : ∀ ρ' H' u, Ext ρ H ρ' H' → At κ G ρ' st H' → RV κ (Fo G.B ρ') ρ' H' v u → Q u H') (r : RV κ (Fo G.B ρ) ρ H v u) : Q u H := k ρ H u Ext.refl A r
theorem newT {ρ : List Addr} {st : Store} {H : Hp} {ps : List PV} {Q : VK} {xs : List V} {p : Addr} (A : At κ G ρ st H) (k : ∀ ρ' H' u, Ext ρ H ρ' H' → At κ G ρ' st H' → RV κ (Fo G.B ρ') ρ' H' (.tup ps) u → Q u H') (r : RVs κ (Fo G.B ρ) ρ H ps xs) {ob : Obj} (hp : H p = none) (od : ob.dict = none) : Q (.ref p) (upd H p (.frz ob (.tup xs))) := by
  have e2 : Ext ρ H ρ (upd H p (.frz ob (.tup xs))) := ext_new hp
  refine k ρ _ _ e2 (A.step e2 (A.wd.new hp)) ?_
  simp only [RV]
  exact ⟨p, xs, rfl, .inl ⟨ob, od, upd_same⟩, r.mono e2.mono⟩
theorem newL {ρ : List Addr} {st : Store} {H : Hp} {ps : List PV} {Q : VK} {xs : List V} {p : Addr} (A : At κ G ρ st H) (k : ∀ ρ' H' u, Ext ρ H ρ' H' → At κ G ρ' st H' → RV κ (Fo G.B ρ') ρ' H' (.lst ps) u → Q u H') (r : RVs κ (Fo G.B ρ) ρ H ps xs) (hp : H p = none) : Q (.ref p) (upd H p (.lst xs)) := by
  have e2 : Ext ρ H ρ (upd H p (.lst xs)) := ext_new hp
  refine k ρ _ _ e2 (A.step e2 (A.wd.new hp)) ?_
  simp only [RV]
  exact ⟨p, xs, rfl, upd_same, A.wd.fo hp, r.mono e2.mono⟩
theorem big_of {m : Nat} (h : m ≤ 1000000) : m ≤ sizeLine := Nat.le_trans h big
theorem o_add : Op2 Γ N sc (binaryOp .Add) O.add := fun n c fa G X g => by
  refine ⟨_, OpR.or op_add (OpR.or op_catF (OpR.or op_add_str op_cat)), ?_⟩
  intro ρ st H p q v x y Q A rp rq ef k
  unfold O.add at ef
  split at ef
  · cases ef
    exact .inl ⟨_, _, rr_int rp, rr_int rq, now A k (by simp only [RV])⟩
  · rename_i ps qs
    split at ef
    · rename_i hl
      cases ef
      obtain ⟨a, xs, rfl, h1, r1⟩ := rr_tupD rp
      obtain ⟨b, ys, rfl, h2, r2⟩ := rr_tupD rq
      refine .inr (.inl ⟨a, b, xs, ys, rfl, rfl, h1.sqT, h2.sqT, by rw [← r1.length, ← r2.length]; exact big_of hl, fun e => ?_, fun e e' => ?_, fun e e' p ob hp od => ?_⟩)
      · subst e
        have : ps = [] := List.length_eq_zero_iff.mp (r1.length)
        subst this
        exact now A k (by simp only [RV]; exact ⟨b, ys, rfl, h2, r2⟩)
      · subst e'
        have : qs = [] := List.length_eq_zero_iff.mp (r2.length)
        subst this
        exact now A k (by simp only [RV, List.append_nil]; exact ⟨a, xs, rfl, h1, r1⟩)
      · exact newT A k (r1.append r2) hp od
    · cases ef
  · rename_i ps qs
    split at ef
    · rename_i hl
      cases ef
      obtain ⟨a, xs, rfl, h1, r1⟩ := rr_lst rp
      obtain ⟨b, ys, rfl, h2, r2⟩ := rr_lst rq
      exact .inr (.inr (.inr ⟨a, b, xs, ys, rfl, rfl, h1, h2, by rw [← r1.length, ← r2.length]; exact big_of hl, fun p hp => newL A k (r1.append r2) hp⟩))
    · cases ef
  · split at ef
    · rename_i hl
      cases ef
      exact .inr (.inr (.inl ⟨_, _, rr_str rp, rr_str rq, big_of hl, now A k (by simp only [RV])⟩))
    · cases ef
  · cases ef
theorem o_sub : Op2 Γ N sc (binaryOp .Sub) O.sub := fun n c fa G X g => by
  refine ⟨_, op_sub, ?_⟩
  intro ρ st H p q v x y Q A rp rq ef k
  unfold O.sub at ef
  split at ef
  · cases ef
    exact ⟨_, _, rr_int rp, rr_int rq, now A k (by simp only [RV])⟩
  · cases ef
theorem small_of {i : Int} (h : O.small i = true) : -(2 ^ 64) < i ∧ i < 2 ^ 64 := by
  unfold O.small at h
  simp only [Bool.and_eq_true, decide_eq_true_eq] at h
  have e : (2 : Int) ^ 64 = 18446744073709551616 := by decide
  rw [e]
  exact h
theorem o_mul : Op2 Γ N sc (binaryOp .Mult) O.mul := fun n c fa G X g => by
  refine ⟨_, OpR.or op_mul op_repF, ?_⟩
  intro ρ st H p q v x y Q A rp rq ef k
  unfold O.mul at ef
  split at ef
  · split at ef
    · rename_i hs
      cases ef
      rw [Bool.or_eq_true] at hs
      refine .inl ⟨_, _, rr_int rp, rr_int rq, ?_, now A k (by simp only [RV])⟩
      rcases hs with hs | hs
      · exact .inl (small_of hs)
      · exact .inr (small_of hs)
    · cases ef
  · split at ef
    · rename_i hs
      cases ef
      simp only [Bool.and_eq_true, decide_eq_true_eq] at hs
      obtain ⟨a, xs, rfl, h1, r1⟩ := rr_tup rp
      refine .inr ⟨a, _, xs, rfl, rr_int rq, h1, fun e => hs.1 ?_, hs.2.1, hs.2.2.1, by rw [← r1.length]; exact hs.2.2.2, fun p ob hp od => newT A k (RVs.flatten _ r1) hp od⟩
      subst e
      exact List.length_eq_zero_iff.mp (r1.length)
    · cases ef
  · cases ef
theorem o_fdiv : Op2 Γ N sc (binaryOp .FloorDiv) O.fdiv := fun n c fa G X g => by
  refine ⟨_, op_fdiv, ?_⟩
  intro ρ st H p q v x y Q A rp rq ef k
  unfold O.fdiv at ef
  split at ef
  · split at ef
    · rename_i hs
      cases ef
      simp only [Bool.and_eq_true, decide_eq_true_eq] at hs
      exact ⟨_, _, rr_int rp, rr_int rq, hs, now A k (by simp only [RV])⟩
    · cases ef
  · cases ef
theorem o_mod : Op2 Γ N sc (binaryOp .Mod) O.mod := fun n c fa G X g => by
  refine ⟨_, op_mod, ?_⟩
  intro ρ st H p q v x y Q A rp rq ef k
  unfold O.mod at ef
  split at ef
  · split at ef
    · rename_i hs
      cases ef
      simp only [decide_eq_true_eq] at hs
      exact ⟨_, _, rr_int rp, rr_int rq, hs, now A k (by simp only [RV])⟩
    · cases ef
  · cases ef
theorem o_pow : Op2 Γ N sc (binaryOp .Pow) O.pow := fun n c fa G X g => by
  refine ⟨_, op_pow, ?_⟩
  intro ρ st H p q v x y Q A rp rq ef k
  unfold O.pow at ef
  split at ef
  · split at ef
    · rename_i i j hs
      cases ef
      simp only [Bool.and_eq_true, decide_eq_true_eq] at hs
      refine ⟨_, _, rr_int rp, rr_int rq, ⟨hs.1, by omega, ?_⟩, now A k (by simp only [RV])⟩
      have := small_of hs.2.2
      have e : (2 : Nat) ^ 64 = 18446744073709551616 := by decide
      have e2 : (2 : Int) ^ 64 = 18446744073709551616 := by decide
      rw [e2] at this
      rw [e]
      omega
    · cases ef
  · cases ef
theorem o_neg : Op1 Γ N sc (unaryOp .USub) O.neg := fun n c fa G X g => by
  refine ⟨_, un_neg, ?_⟩
  intro ρ st H p v x Q A rp ef k
  unfold O.neg at ef
  split at ef
  · cases ef
    exact ⟨_, rr_int rp, now A k (by simp only [RV])⟩
  · cases ef
theorem o_gt : Op2 Γ N sc (compareOp .Gt) O.gt := fun n c fa G X g => by
  refine ⟨_, op_gt, ?_⟩
  intro ρ st H p q v x y Q A rp rq ef k
  unfold O.gt at ef
  split at ef
  · cases ef
    exact ⟨_, _, rr_int rp, rr_int rq, now A k (by simp only [RV])⟩
  · cases ef
end
end Dn


namespace Dn
open PySem L2
def dicPD : List (PV × PV) → PyData
  | [(.int a, .int b)] => .dict [(.int a, .int b)]
  | _ => .dict []
mutual
def toPD : PV → PyData
  | .non => .none
  | .bl b => .bool b
  | .int i => .int i
  | .str x => .str x
  | .tup xs => .tuple (toPDs xs)
  | .lst xs => .list (toPDs xs)
  | .dic _ kvs => dicPD kvs
  | .ref _ => .none
  | .scr _ => .none
def toPDs : List PV → List PyData
  | [] => []
  | x :: xs => toPD x :: toPDs xs
end
theorem signs_ok : ∀ (l : List Nat), signsOk l = true → l.all (· < 0x110000) = true
  | [], _ => rfl
  | c :: cs, h => by
    simp only [signsOk, Bool.and_eq_true] at h
    rw [List.all_cons, Bool.and_eq_true]
    refine ⟨?_, signs_ok cs h.2⟩
    have := h.1
    simp only [Nat.blt_eq] at this
    simpa using this
theorem strOk_of {x : Str} (h : signsOk x.cps.toList = true) : PyData.strOk x = true := by
  unfold PyData.strOk
  rw [← Array.all_toList]
  exact signs_ok _ h
mutual
theorem eqv_pd : ∀ (n m : Nat) (x y : PV), flat n x = true → flat m y = true → eqv x y = PyData.eqv (toPD x) (toPD y)
  | n, m, .non, y, h, g => by cases y <;> simp [eqv, toPD, PyData.eqv, flat] at g ⊢
  | n, m, .bl a, y, h, g => by cases y <;> simp [eqv, toPD, PyData.eqv, flat] at g ⊢ <;> (cases a <;> simp [Bool.beq_eq_decide_eq])
  | n, m, .int i, y, h, g => by cases y <;> simp [eqv, toPD, PyData.eqv, flat, Bool.beq_eq_decide_eq] at g ⊢
  | n, m, .str a, y, h, g => by
    cases y with
    | str b =>
      simp only [eqv, toPD, PyData.eqv]
      rw [Bool.eq_iff_iff, sEq_iff, beq_iff_eq]
    | _ => simp [eqv, toPD, PyData.eqv, flat] at g ⊢
  | n, m, .tup xs, y, h, g => by
    cases n with
    | zero => simp [flat] at h
    | succ n =>
      simp only [flat] at h
      cases y with
      | tup ys =>
        cases m with
        | zero => simp [flat] at g
        | succ m =>
          simp only [flat] at g
          simp only [eqv, toPD, PyData.eqv]
          exact eqvL_pd n m xs ys h g
      | _ => simp [eqv, toPD, PyData.eqv, flat] at g ⊢
  | n, m, .lst xs, y, h, g => by
    cases n with
    | zero => simp [flat] at h
    | succ n =>
      simp only [flat] at h
      cases y with
      | lst ys =>
        cases m with
        | zero => simp [flat] at g
        | succ m =>
          simp only [flat] at g
          simp only [eqv, toPD, PyData.eqv]
          exact eqvL_pd n m xs ys h g
      | _ => simp [eqv, toPD, PyData.eqv, flat] at g ⊢
  | n, m, .dic t kvs, y, h, g => by simp [flat] at h
  | n, m, .ref k, y, h, g => by simp [flat] at h
  | n, m, .scr k, y, h, g => by simp [flat] at h
theorem eqvL_pd : ∀ (n m : Nat) (x y : List PV), flatL n x = true → flatL m y = true → eqvL x y = PyData.eqvAll (toPDs x) (toPDs y)
  | n, m, [], ys, h, g => by cases ys <;> simp [eqvL, toPDs, PyData.eqvAll]
  | n, m, x :: xs, ys, h, g => by
    cases ys with
    | nil => simp [eqvL, toPDs, PyData.eqvAll]
    | cons y ys =>
      simp only [flatL, Bool.and_eq_true] at h g
      simp only [eqvL, toPDs, PyData.eqvAll]
      rw [eqv_pd n m x y h.1 g.1, eqvL_pd n m xs ys h.2 g.2]
end
mutual
theorem shaped_pd : ∀ (n : Nat) (x : PV), flat n x = true → (toPD x).canLay0 = true ∧ (toPD x).depth ≤ n + 1
  | n, .non, _ => by simp [toPD, PyData.canLay0, PyData.depth]
  | n, .bl a, _ => by simp [toPD, PyData.canLay0, PyData.depth]
  | n, .int a, _ => by simp [toPD, PyData.canLay0, PyData.depth]
  | n, .str a, h => by
    simp only [flat] at h
    simp [toPD, PyData.canLay0, PyData.depth, strOk_of h]
  | n, .tup xs, h => by
    cases n with
    | zero => simp [flat] at h
    | succ n =>
      simp only [flat] at h
      have := shapedL_pd n xs h
      simp only [toPD, PyData.canLay0, PyData.depth]
      exact ⟨this.1, by omega⟩
  | n, .lst xs, h => by
    cases n with
    | zero => simp [flat] at h
    | succ n =>
      simp only [flat] at h
      have := shapedL_pd n xs h
      simp only [toPD, PyData.canLay0, PyData.depth]
      exact ⟨this.1, by omega⟩
  | n, .dic t kvs, h => by simp [flat] at h
  | n, .ref k, h => by simp [flat] at h
  | n, .scr k, h => by simp [flat] at h
theorem shapedL_pd : ∀ (n : Nat) (x : List PV), flatL n x = true → PyData.canLayAll0 (toPDs x) = true ∧ PyData.depthAll (toPDs x) ≤ n + 1
  | n, [], _ => by simp [toPDs, PyData.canLayAll0, PyData.depthAll]
  | n, x :: xs, h => by
    simp only [flatL, Bool.and_eq_true] at h
    have h1 := shaped_pd n x h.1
    have h2 := shapedL_pd n xs h.2
    simp only [toPDs, PyData.canLayAll0, PyData.depthAll, Bool.and_eq_true]
    exact ⟨⟨h1.1, h2.1⟩, by omega⟩
end
theorem shaped60 {x : PV} (h : flat 60 x = true) : SeqAt.shaped (toPD x) = true := by
  have := shaped_pd 60 x h
  unfold SeqAt.shaped
  rw [this.1, Bool.true_and, decide_eq_true_eq]
  omega
section
variable {Γ : Pg} {n : Nat} {c fa : Nat → Addr} {G : Fr} {N : List Str} {sc : Scope} {X : Cx} {κ : Cn}
mutual
theorem dp_of {F : Addr → Prop} {ρ : List Addr} {H : Hp} : ∀ (n : Nat) (p : PV) (v : V), flat n p = true → RV κ F ρ H p v → Dp κ.K H v (toPD p)
  | n, .non, v, h, r => by simp only [RV] at r; subst r; exact .non
  | n, .bl b, v, h, r => by simp only [RV] at r; subst r; exact .bl b
  | n, .int b, v, h, r => by simp only [RV] at r; subst r; exact .int b
  | n, .str b, v, h, r => by simp only [RV] at r; subst r; exact .str b
  | n, .tup ps, v, h, r => by
    cases n with
    | zero => simp [flat] at h
    | succ n =>
      simp only [flat] at h
      simp only [RV] at r
      obtain ⟨a, xs, rfl, h1, h2⟩ := r
      simp only [toPD]
      exact .tup h1.sqT (dps_of n ps xs h h2)
  | n, .lst ps, v, h, r => by
    cases n with
    | zero => simp [flat] at h
    | succ n =>
      simp only [flat] at h
      simp only [RV] at r
      obtain ⟨a, xs, rfl, h1, _, h2⟩ := r
      simp only [toPD]
      exact .lst (SqL.of h1) (dps_of n ps xs h h2)
  | n, .dic t kvs, v, h, r => by simp [flat] at h
  | n, .ref k, v, h, r => by simp [flat] at h
  | n, .scr k, v, h, r => by simp [flat] at h
theorem dps_of {F : Addr → Prop} {ρ : List Addr} {H : Hp} : ∀ (n : Nat) (p : List PV) (v : List V), flatL n p = true → RVs κ F ρ H p v → DpAll κ.K H v (toPDs p)
  | n, [], v, h, r => by simp only [RVs] at r; subst r; exact .nil
  | n, p :: ps, v, h, r => by
    simp only [flatL, Bool.and_eq_true] at h
    simp only [RVs] at r
    obtain ⟨w, t, rfl, h1, h2⟩ := r
    exact .cons (dp_of n p w h.1 h1) (dps_of n ps t h.2 h2)
end
theorem dp_rr {F : Addr → Prop} {ρ : List Addr} {H : Hp} {n : Nat} {p : PV} {v : V} (h : flat n p = true) (r : RR κ F ρ H p v) : Dp κ.K H v (toPD p) := by
  cases p with
  | lst ps =>
    cases n with
    | zero => simp [flat] at h
    | succ n =>
      simp only [flat] at h
      obtain ⟨a, xs, rfl, h1, h2⟩ := r
      simp only [toPD]
      exact .lst (SqL.of h1) (dps_of n ps xs h h2)
  | dic t kvs => simp [flat] at h
  | _ => exact dp_of (F := F) (ρ := ρ) n _ v h r
def rEq0 (K : PySem.W.Frag) (neg : Bool) : R2 := fun x y H Q => ∃ a b xs, x = .ref a ∧ y = .ref b ∧ SqT K H a xs ∧ SqT K H b [] ∧ xs ≠ [] ∧ Q (.bl neg) H
theorem op_eq0 (hu : X.A.units < cLine) : OpR X (compareOp .Eq) (rEq0 X.K false) := by
  intro pins s σ H x y v u Q I rx ry h
  obtain ⟨a, b, xs, rfl, rfl, ha, hb, hx, q⟩ := h
  cases rx
  cases ry
  obtain ⟨its, r1, p1, _⟩ := I.tuple ha
  obtain ⟨its2, r2, p2, _⟩ := I.tuple hb
  cases r2
  have n1 : its ≠ [] := fun e => hx ((Vals.nil_iff r1).mp e)
  have nz : (its.toArray.size == ([] : List Value).toArray.size) = false := by
    simpa using n1
  exact SeqAt.RcAt.tuples (e := fun _ => true) p1 p2 hu (fun j _ h2 => absurd h2 (by simp)) _ _ _ _ (by
    rw [nz, Bool.and_false]
    exact ⟨.bl false, H, I, rfl, q⟩)
theorem op_ne0 (hu : X.A.units < cLine) : OpR X (compareOp .NotEq) (rEq0 X.K true) := by
  intro pins s σ H x y v u Q I rx ry h
  obtain ⟨a, b, xs, rfl, rfl, ha, hb, hx, q⟩ := h
  cases rx
  cases ry
  obtain ⟨its, r1, p1, _⟩ := I.tuple ha
  obtain ⟨its2, r2, p2, _⟩ := I.tuple hb
  cases r2
  have n1 : its ≠ [] := fun e => hx ((Vals.nil_iff r1).mp e)
  have nz : (its.toArray.size == ([] : List Value).toArray.size) = false := by
    simpa using n1
  exact SeqAt.RcNeAt.tuples (e := fun _ => true) p1 p2 hu (fun j _ h2 => absurd h2 (by simp)) _ _ _ _ (by
    rw [nz, Bool.and_false]
    exact ⟨.bl true, H, I, rfl, q⟩)
theorem eqP_inv {x y : PV} {b : Bool} (h : eqP x y = some b) : ((flat 60 x = true ∧ flat 60 y = true) ∧ b = eqv x y) ∨ (b = false ∧ ∃ z zs, x = .tup (z :: zs) ∧ y = .tup []) := by
  unfold eqP at h
  split at h
  · rename_i hf
    rw [Bool.and_eq_true] at hf
    cases h
    exact .inl ⟨hf, rfl⟩
  · split at h
    · cases h
      exact .inr ⟨rfl, _, _, rfl, rfl⟩
    · cases h
theorem o_eq : Op2 Γ N sc (compareOp .Eq) O.eq := fun n c fa G X g => by
  refine ⟨_, OpR.or (op_eqD g.u64) (op_eq0 (by have := g.u64; omega)), ?_⟩
  intro ρ st H p q v x y Q A rp rq ef k
  unfold O.eq at ef
  obtain ⟨b, eb, rfl⟩ := Option.map_eq_some_iff.mp ef
  rcases eqP_inv eb with ⟨hf, rfl⟩ | ⟨rfl, z, zs, rfl, rfl⟩
  · refine .inl ⟨_, _, dp_rr hf.1 rp, dp_rr hf.2 rq, shaped60 hf.1, shaped60 hf.2, now A k ?_⟩
    simp only [RV]
    rw [eqv_pd 60 60 p q hf.1 hf.2]
  · obtain ⟨a, xs, rfl, h1, h2⟩ := rr_tup rp
    obtain ⟨a2, ys, rfl, h3, h4⟩ := rr_tup rq
    simp only [RVs] at h2 h4
    obtain ⟨w, t, rfl, _⟩ := h2
    subst h4
    exact .inr ⟨_, _, _, rfl, rfl, h1, h3, by simp, now A k (by simp only [RV])⟩
theorem o_ne : Op2 Γ N sc (compareOp .NotEq) O.ne := fun n c fa G X g => by
  refine ⟨_, OpR.or (op_neD g.u64) (op_ne0 (by have := g.u64; omega)), ?_⟩
  intro ρ st H p q v x y Q A rp rq ef k
  unfold O.ne at ef
  obtain ⟨b, eb, rfl⟩ := Option.map_eq_some_iff.mp ef
  rcases eqP_inv eb with ⟨hf, rfl⟩ | ⟨rfl, z, zs, rfl, rfl⟩
  · refine .inl ⟨_, _, dp_rr hf.1 rp, dp_rr hf.2 rq, shaped60 hf.1, shaped60 hf.2, now A k ?_⟩
    simp only [RV]
    rw [eqv_pd 60 60 p q hf.1 hf.2]
  · obtain ⟨a, xs, rfl, h1, h2⟩ := rr_tup rp
    obtain ⟨a2, ys, rfl, h3, h4⟩ := rr_tup rq
    simp only [RVs] at h2 h4
    obtain ⟨w, t, rfl, _⟩ := h2
    subst h4
    exact .inr ⟨_, _, _, rfl, rfl, h1, h3, by simp, now A k (by simp only [RV, Bool.not_false])⟩
theorem any_pd {x : PV} (hx : flat 59 x = true) : ∀ (xs : List PV), flatL 59 xs = true → (xs.any fun y => eqv y x) = (toPDs xs).any fun y => PyData.eqv y (toPD x)
  | [], _ => rfl
  | y :: ys, h => by
    simp only [flatL, Bool.and_eq_true] at h
    simp only [List.any_cons, toPDs]
    rw [eqv_pd 59 59 y x h.1 hx, any_pd hx ys h.2]
def rInT (K : PySem.W.Frag) (neg : Bool) : R2 := fun x y H Q => ∃ d ds, Dp K H x d ∧ Dp K H y (.tuple ds) ∧ SeqAt.shaped d = true ∧ SeqAt.shaped (.tuple ds) = true ∧ Q (.bl (if neg then !(ds.any fun z => PyData.eqv z d) else ds.any fun z => PyData.eqv z d)) H
theorem room_inT {X : Cx} {d e : PyData} (hd : SeqAt.shaped d = true) (hu : X.A.units + 65 < cLine) (ds : List PyData) : X.A.units + 1 + min (PyData.depthAll ds) d.depth < cLine := by
  have h1 := SeqAt.depth_of_shaped hd
  have h2 : min (PyData.depthAll ds) d.depth ≤ d.depth := Nat.min_le_right _ _
  omega
theorem op_inT (hu : X.A.units + 65 < cLine) : OpR X (compareOp .In) (rInT X.K false) := by
  intro pins s σ H x y v u Q I rx ry h
  obtain ⟨d, ds, hd, he, sd, se, q⟩ := h
  obtain ⟨as, r1⟩ := Dp.reads I d x v hd rx
  obtain ⟨bs, r2⟩ := Dp.reads I (.tuple ds) y u he ry
  exact SeqAt.in_tuple_reads r2 r1 (SeqAt.canLay_of_shaped se) (SeqAt.canLay_of_shaped sd) (room_inT (e := d) sd hu ds) ⟨.bl _, H, I, rfl, q⟩
theorem shapedS {x : PV} (h : flat 59 x = true) : SeqAt.shaped (toPD x) = true := by
  have := shaped_pd 59 x h
  unfold SeqAt.shaped
  rw [this.1, Bool.true_and, decide_eq_true_eq]
  omega
end
end Dn


namespace Dn
open PySem L2

theorem eqv_key {a k : PV} {ka kk : Key} (h : toKey a = some ka) (g : toKey k = some kk) : eqv a k = decide (ka = kk) := by
  cases a <;> cases k <;> simp only [toKey, Option.some.injEq, reduceCtorEq] at h g
  all_goals subst h; subst g
  · simp only [eqv]; exact (key_ll _ _).trans (by rw [Bool.beq_eq_decide_eq]) |>.symm
  · simp only [eqv]; exact (key_lr _ _).symm
  · simp only [eqv]; exact (key_rl _ _).symm
  · simp only [eqv]
    rw [key_rr, Bool.eq_iff_iff, sEq_iff, decide_eq_true_eq]
theorem keyT_false {k : PV} (h : keyT false k = true) : ∃ kk, toKey k = some kk := by
  cases k <;> simp [keyT, toKey] at h ⊢
section
variable {κ : Cn} {F : Addr → Prop} {ρ : List Addr} {H : Hp}
theorem rv_key {k : PV} {kk : Key} {v : V} (h : toKey k = some kk) (r : RV κ F ρ H k v) : v = kV kk := by
  cases k <;> simp only [toKey, Option.some.injEq, reduceCtorEq] at h
  all_goals subst h; simp only [RV] at r; exact r
theorem RKs.find : ∀ {kvs : List (PV × PV)} {es : List (Key × V)} {k : PV} {kk : Key}, RKs κ F ρ H kvs es → toKey k = some kk →
    (find k kvs = none ∧ valV es kk = none) ∨ ∃ p w, find k kvs = some p ∧ valV es kk = some w ∧ RV κ F ρ H p w
  | [], es, k, kk, h, g => by
    simp only [RKs] at h
    subst h
    exact .inl ⟨rfl, rfl⟩
  | (a, p) :: r, es, k, kk, h, g => by
    simp only [RKs] at h
    obtain ⟨ka, w, t, rfl, h0, h1, h2⟩ := h
    simp only [Dn.find]
    rw [eqv_key h0 g]
    by_cases e : ka = kk
    · rw [decide_eq_true e, if_pos rfl]
      exact .inr ⟨p, w, rfl, valV_pos (p := (ka, w)) e, h1⟩
    · rw [decide_eq_false e, if_neg (by decide)]
      have : valV ((ka, w) :: t) kk = valV t kk := by simp [valV, List.find?_cons, e]
      rw [this]
      exact RKs.find h2 g
theorem RKs.any : ∀ {kvs : List (PV × PV)} {es : List (Key × V)} {k : PV} {kk : Key}, RKs κ F ρ H kvs es → toKey k = some kk → (kvs.any fun p => eqv p.1 k) = (es.any fun kv => decide (kv.1 = kk))
  | [], es, k, kk, h, g => by
    simp only [RKs] at h
    subst h
    rfl
  | (a, p) :: r, es, k, kk, h, g => by
    simp only [RKs] at h
    obtain ⟨ka, w, t, rfl, h0, h1, h2⟩ := h
    simp only [List.any_cons]
    rw [eqv_key h0 g, RKs.any h2 g]
theorem RKs.mapPut {v : PV} {w : V} (r : RV κ F ρ H v w) : ∀ {kvs : List (PV × PV)} {es : List (Key × V)} {k : PV} {kk : Key}, RKs κ F ρ H kvs es → toKey k = some kk →
    RKs κ F ρ H (kvs.map (fun p => if eqv p.1 k then (p.1, v) else p)) (es.map (fun kv => if kv.1 = kk then (kv.1, w) else kv))
  | [], es, k, kk, h, g => by
    simp only [RKs] at h
    subst h
    simp [RKs]
  | (a, p) :: t, es, k, kk, h, g => by
    simp only [RKs] at h
    obtain ⟨ka, z, t', rfl, h0, h1, h2⟩ := h
    simp only [List.map_cons]
    rw [eqv_key h0 g]
    by_cases e : ka = kk
    · rw [decide_eq_true e, if_pos rfl, if_pos e]
      simp only [RKs]
      exact ⟨ka, w, _, rfl, h0, r, RKs.mapPut r h2 g⟩
    · rw [decide_eq_false e, if_neg (by decide), if_neg e]
      simp only [RKs]
      exact ⟨ka, z, _, rfl, h0, h1, RKs.mapPut r h2 g⟩
theorem RKs.snoc {v : PV} {w : V} (r : RV κ F ρ H v w) : ∀ {kvs : List (PV × PV)} {es : List (Key × V)} {k : PV} {kk : Key}, RKs κ F ρ H kvs es → toKey k = some kk → RKs κ F ρ H (kvs ++ [(k, v)]) (es ++ [(kk, w)])
  | [], es, k, kk, h, g => by
    simp only [RKs] at h
    subst h
    simp only [List.nil_append, RKs]
    exact ⟨kk, w, [], rfl, g, r, rfl⟩
  | (a, p) :: t, es, k, kk, h, g => by
    simp only [RKs] at h
    obtain ⟨ka, z, t', rfl, h0, h1, h2⟩ := h
    simp only [List.cons_append, RKs]
    exact ⟨ka, z, _, rfl, h0, h1, RKs.snoc r h2 g⟩
theorem RKs.put {kvs : List (PV × PV)} {es : List (Key × V)} {k v : PV} {kk : Key} {w : V} (h : RKs κ F ρ H kvs es) (g : toKey k = some kk) (r : RV κ F ρ H v w) : RKs κ F ρ H (put k v kvs) (putK es kk w) := by
  unfold Dn.put putK
  rw [RKs.any h g]
  by_cases e : (es.any fun kv => decide (kv.1 = kk)) = true
  · rw [if_pos e, if_pos e]
    exact RKs.mapPut r h g
  · rw [if_neg e, if_neg e]
    exact RKs.snoc r h g
theorem RKs.length : ∀ {kvs : List (PV × PV)} {es : List (Key × V)}, RKs κ F ρ H kvs es → kvs.length = es.length
  | [], es, h => by
    simp only [RKs] at h
    subst h
    rfl
  | (a, p) :: t, es, h => by
    simp only [RKs] at h
    obtain ⟨ka, z, t', rfl, h0, h1, h2⟩ := h
    simp [RKs.length h2]
theorem RTs.length : ∀ {kvs : List (PV × PV)} {es : List (NestedKey × Addr × V)}, RTs κ F ρ H kvs es → kvs.length = es.length
  | [], es, h => by
    simp only [RTs] at h
    subst h
    rfl
  | (a, p) :: t, es, h => by
    simp only [RTs] at h
    obtain ⟨ka, b, z, t', rfl, h0, h1, h2, h3⟩ := h
    simp [RTs.length h3]
end


mutual
theorem keyOk_nk : ∀ (n : Nat) (k : PV), keyOk n k = true → ∃ nk, toNK k = some nk ∧ nk.depth ≤ n
  | n, .int i, _ => ⟨.num i, by simp [toNK], by simp [NestedKey.depth]⟩
  | n, .str x, _ => ⟨.text x, by simp [toNK], by simp [NestedKey.depth]⟩
  | n, .tup xs, h => by
    cases n with
    | zero => simp [keyOk] at h
    | succ n =>
      simp only [keyOk] at h
      obtain ⟨nks, e, d⟩ := keyOk_nks n xs h
      exact ⟨.tup nks, by simp [toNK, e], by simp only [NestedKey.depth]; omega⟩
  | n, .non, h => by simp [keyOk] at h
  | n, .bl b, h => by simp [keyOk] at h
  | n, .lst b, h => by simp [keyOk] at h
  | n, .dic t b, h => by simp [keyOk] at h
  | n, .ref b, h => by simp [keyOk] at h
  | n, .scr b, h => by simp [keyOk] at h
theorem keyOk_nks : ∀ (n : Nat) (k : List PV), keyOkL n k = true → ∃ nk, toNKs k = some nk ∧ NestedKey.depthAll nk ≤ n
  | n, [], _ => ⟨[], by simp [toNKs], by simp [NestedKey.depthAll]⟩
  | n, x :: xs, h => by
    simp only [keyOkL, Bool.and_eq_true] at h
    obtain ⟨a, e1, d1⟩ := keyOk_nk n x h.1
    obtain ⟨b, e2, d2⟩ := keyOk_nks n xs h.2
    exact ⟨a :: b, by simp [toNKs, e1, e2], by simp only [NestedKey.depthAll]; omega⟩
end
mutual
theorem eqv_nk : ∀ {a k : PV} {ka kk : NestedKey}, toNK a = some ka → toNK k = some kk → eqv a k = decide (ka = kk)
  | .int i, k, ka, kk, h, g => by
    simp only [toNK, Option.some.injEq] at h
    subst h
    cases k <;> simp only [toNK, Option.some.injEq, reduceCtorEq] at g
    · subst g; simp [eqv]
    · subst g; simp [eqv]
    · obtain ⟨z, _, rfl⟩ := Option.map_eq_some_iff.mp g
      simp [eqv]
  | .str x, k, ka, kk, h, g => by
    simp only [toNK, Option.some.injEq] at h
    subst h
    cases k <;> simp only [toNK, Option.some.injEq, reduceCtorEq] at g
    · subst g; simp [eqv]
    · subst g
      simp only [eqv, NestedKey.text.injEq]
      rw [Bool.eq_iff_iff, sEq_iff, decide_eq_true_eq]
    · obtain ⟨z, _, rfl⟩ := Option.map_eq_some_iff.mp g
      simp [eqv]
  | .tup xs, k, ka, kk, h, g => by
    simp only [toNK] at h
    obtain ⟨z, e, rfl⟩ := Option.map_eq_some_iff.mp h
    cases k <;> simp only [toNK, Option.some.injEq, reduceCtorEq] at g
    · subst g; simp [eqv]
    · subst g; simp [eqv]
    · obtain ⟨z', e', rfl⟩ := Option.map_eq_some_iff.mp g
      simp only [eqv, NestedKey.tup.injEq]
      exact eqvL_nk e e'
  | .non, k, ka, kk, h, g => by simp [toNK] at h
  | .bl b, k, ka, kk, h, g => by simp [toNK] at h
  | .lst b, k, ka, kk, h, g => by simp [toNK] at h
  | .dic t b, k, ka, kk, h, g => by simp [toNK] at h
  | .ref b, k, ka, kk, h, g => by simp [toNK] at h
  | .scr b, k, ka, kk, h, g => by simp [toNK] at h
theorem eqvL_nk : ∀ {a k : List PV} {ka kk : List NestedKey}, toNKs a = some ka → toNKs k = some kk → eqvL a k = decide (ka = kk)
  | [], k, ka, kk, h, g => by
    simp only [toNKs, Option.some.injEq] at h
    subst h
    cases k with
    | nil => simp only [toNKs, Option.some.injEq] at g; subst g; simp [eqvL]
    | cons y ys =>
      simp only [toNKs] at g
      obtain ⟨q, _, g⟩ := Option.bind_eq_some_iff.mp g
      obtain ⟨z, _, rfl⟩ := Option.map_eq_some_iff.mp g
      simp [eqvL]
  | x :: xs, k, ka, kk, h, g => by
    simp only [toNKs] at h
    obtain ⟨q, e1, h⟩ := Option.bind_eq_some_iff.mp h
    obtain ⟨z, e2, rfl⟩ := Option.map_eq_some_iff.mp h
    cases k with
    | nil => simp only [toNKs, Option.some.injEq] at g; subst g; simp [eqvL]
    | cons y ys =>
      simp only [toNKs] at g
      obtain ⟨q', e1', g⟩ := Option.bind_eq_some_iff.mp g
      obtain ⟨z', e2', rfl⟩ := Option.map_eq_some_iff.mp g
      simp only [eqvL, List.cons.injEq]
      rw [eqv_nk e1 e1', eqvL_nk e2 e2', Bool.decide_and]
end
abbrev E3 := NestedKey × Addr × V
section
variable {κ : Cn} {F : Addr → Prop} {ρ : List Addr} {H : Hp}
def valT (es : List E3) (k : NestedKey) : Option V := (es.find? fun x => decide (x.1 = k)).map (·.2.2)
def putT (es : List E3) (k : NestedKey) (a : Addr) (v : V) : List E3 := if (es.any fun x => decide (x.1 = k)) = true then es.map (fun x => if x.1 = k then (x.1, x.2.1, v) else x) else es ++ [(k, a, v)]
theorem RTs.find : ∀ {kvs : List (PV × PV)} {es : List E3} {k : PV} {kk : NestedKey}, RTs κ F ρ H kvs es → toNK k = some kk →
    (find k kvs = none ∧ valT es kk = none) ∨ ∃ p w, find k kvs = some p ∧ valT es kk = some w ∧ RV κ F ρ H p w
  | [], es, k, kk, h, g => by
    simp only [RTs] at h
    subst h
    exact .inl ⟨rfl, rfl⟩
  | (a, p) :: r, es, k, kk, h, g => by
    simp only [RTs] at h
    obtain ⟨ka, b, w, t, rfl, h0, hk, h1, h2⟩ := h
    simp only [Dn.find]
    rw [eqv_nk h0 g]
    by_cases e : ka = kk
    · rw [decide_eq_true e, if_pos rfl]
      exact .inr ⟨p, w, rfl, by simp [valT, List.find?_cons, e], h1⟩
    · rw [decide_eq_false e, if_neg (by decide)]
      have : valT ((ka, b, w) :: t) kk = valT t kk := by simp [valT, List.find?_cons, e]
      rw [this]
      exact RTs.find h2 g
theorem RTs.any : ∀ {kvs : List (PV × PV)} {es : List E3} {k : PV} {kk : NestedKey}, RTs κ F ρ H kvs es → toNK k = some kk → (kvs.any fun p => eqv p.1 k) = (es.any fun x => decide (x.1 = kk))
  | [], es, k, kk, h, g => by
    simp only [RTs] at h
    subst h
    rfl
  | (a, p) :: r, es, k, kk, h, g => by
    simp only [RTs] at h
    obtain ⟨ka, b, w, t, rfl, h0, hk, h1, h2⟩ := h
    simp only [List.any_cons]
    rw [eqv_nk h0 g, RTs.any h2 g]
theorem RTs.mapPut {v : PV} {w : V} (r : RV κ F ρ H v w) : ∀ {kvs : List (PV × PV)} {es : List E3} {k : PV} {kk : NestedKey}, RTs κ F ρ H kvs es → toNK k = some kk →
    RTs κ F ρ H (kvs.map (fun p => if eqv p.1 k then (p.1, v) else p)) (es.map (fun x => if x.1 = kk then (x.1, x.2.1, w) else x))
  | [], es, k, kk, h, g => by
    simp only [RTs] at h
    subst h
    simp [RTs]
  | (a, p) :: t, es, k, kk, h, g => by
    simp only [RTs] at h
    obtain ⟨ka, b, z, t', rfl, h0, hk, h1, h2⟩ := h
    simp only [List.map_cons]
    rw [eqv_nk h0 g]
    by_cases e : ka = kk
    · rw [decide_eq_true e, if_pos rfl, if_pos e]
      simp only [RTs]
      exact ⟨ka, b, w, _, rfl, h0, hk, r, RTs.mapPut r h2 g⟩
    · rw [decide_eq_false e, if_neg (by decide), if_neg e]
      simp only [RTs]
      exact ⟨ka, b, z, _, rfl, h0, hk, h1, RTs.mapPut r h2 g⟩
theorem RTs.snoc {v : PV} {w : V} (r : RV κ F ρ H v w) {k : PV} {kk : NestedKey} {ak : Addr} (g : toNK k = some kk) (rk : RV κ F ρ H k (.ref ak)) : ∀ {kvs : List (PV × PV)} {es : List E3}, RTs κ F ρ H kvs es → RTs κ F ρ H (kvs ++ [(k, v)]) (es ++ [(kk, ak, w)])
  | [], es, h => by
    simp only [RTs] at h
    subst h
    simp only [List.nil_append, RTs]
    exact ⟨kk, ak, w, [], rfl, g, rk, r, rfl⟩
  | (a, p) :: t, es, h => by
    simp only [RTs] at h
    obtain ⟨ka, b, z, t', rfl, h0, hk, h1, h2⟩ := h
    simp only [List.cons_append, RTs]
    exact ⟨ka, b, z, _, rfl, h0, hk, h1, RTs.snoc r g rk h2⟩
theorem RTs.put {kvs : List (PV × PV)} {es : List E3} {k v : PV} {kk : NestedKey} {w : V} {ak : Addr} (h : RTs κ F ρ H kvs es) (g : toNK k = some kk) (rk : RV κ F ρ H k (.ref ak)) (r : RV κ F ρ H v w) : RTs κ F ρ H (put k v kvs) (putT es kk ak w) := by
  unfold Dn.put putT
  rw [RTs.any h g]
  by_cases e : (es.any fun x => decide (x.1 = kk)) = true
  · rw [if_pos e, if_pos e]
    exact RTs.mapPut r h g
  · rw [if_neg e, if_neg e]
    exact RTs.snoc r g rk h
end


section
variable {X : Cx} {c : Nat → Addr} {pins : List (Addr × Obj)} {σ : St} {H : Hp} {s : Shared} {F : Addr → Prop} {ρ : List Addr}
mutual
theorem nk_is (I : Inv X pins σ H s) : ∀ {k : PV} {nk : NestedKey} {v : V} {u : Value}, toNK k = some nk → RV (cnOf X c) F ρ H k v → RelV v u → NestedIs s.heap nk u
  | .int i, nk, v, u, h, r, ru => by
    simp only [toNK, Option.some.injEq] at h
    subst h
    simp only [RV] at r
    subst r
    obtain ⟨t, rfl⟩ := ru
    exact .int i t
  | .str x, nk, v, u, h, r, ru => by
    simp only [toNK, Option.some.injEq] at h
    subst h
    simp only [RV] at r
    subst r
    obtain ⟨t, rfl⟩ := ru
    exact .text x t
  | .tup xs, nk, v, u, h, r, ru => by
    simp only [toNK] at h
    obtain ⟨z, e, rfl⟩ := Option.map_eq_some_iff.mp h
    simp only [RV] at r
    obtain ⟨a, vs, rfl, h1, h2⟩ := r
    cases ru
    obtain ⟨its, rv, ⟨o, ho, hc, m, hd⟩, _⟩ := I.tuple h1.sqT
    exact .tup ho hc hd (nk_all I e h2 rv)
  | .non, nk, v, u, h, r, ru => by simp [toNK] at h
  | .bl b, nk, v, u, h, r, ru => by simp [toNK] at h
  | .lst b, nk, v, u, h, r, ru => by simp [toNK] at h
  | .dic t b, nk, v, u, h, r, ru => by simp [toNK] at h
  | .ref b, nk, v, u, h, r, ru => by simp [toNK] at h
  | .scr b, nk, v, u, h, r, ru => by simp [toNK] at h
theorem nk_all (I : Inv X pins σ H s) : ∀ {k : List PV} {nk : List NestedKey} {v : List V} {u : List Value}, toNKs k = some nk → RVs (cnOf X c) F ρ H k v → Vals v u → NestedAll s.heap nk u
  | [], nk, v, u, h, r, ru => by
    simp only [toNKs, Option.some.injEq] at h
    subst h
    simp only [RVs] at r
    subst r
    cases ru
    exact .nil
  | x :: xs, nk, v, u, h, r, ru => by
    simp only [toNKs] at h
    obtain ⟨q, e1, h⟩ := Option.bind_eq_some_iff.mp h
    obtain ⟨z, e2, rfl⟩ := Option.map_eq_some_iff.mp h
    simp only [RVs] at r
    obtain ⟨w, t, rfl, h1, h2⟩ := r
    cases ru with
    | cons a b => exact .cons (nk_is I e1 h1 a) (nk_all I e2 h2 b)
end
end
end Dn


namespace Dn
open PySem L2
section
variable {X : Cx} {c : Nat → Addr} {pins : List (Addr × Obj)} {σ : St} {H : Hp} {s : Shared} {F : Addr → Prop} {ρ : List Addr} {A : Around} {E : Value → Shared → Prop}
abbrev EV := fun (x : E3) (y : NestedKey × Addr × Value) => x.1 = y.1 ∧ x.2.1 = y.2.1 ∧ RelV x.2.2 y.2.2
theorem keys_is (I : Inv X pins σ H s) : ∀ {kvs : List (PV × PV)} {es : List E3} {ys : List (NestedKey × Addr × Value)}, RTs (cnOf X c) F ρ H kvs es → (∀ x ∈ es, x.1.depth ≤ 8) → Paired EV es ys →
    ∀ y ∈ ys, (nestedKind X.prog X.w).is s.heap y.1 y.2.1
  | [], es, ys, h, d, p => by
    simp only [RTs] at h
    subst h
    cases p
    intro y hy
    cases hy
  | (k, v) :: t, es, ys, h, d, p => by
    simp only [RTs] at h
    obtain ⟨kk, a, w, r, rfl, h0, hk, _, h2⟩ := h
    cases p with
    | cons q p =>
      intro y hy
      rcases List.mem_cons.mp hy with e | hy
      · subst e
        obtain ⟨e1, e2, _⟩ := q
        rw [← e1, ← e2]
        exact ⟨nk_is I h0 hk rfl, d _ List.mem_cons_self⟩
      · exact keys_is I h2 (fun x hx => d x (List.mem_cons_of_mem _ hx)) p y hy
theorem dT_of (I : Inv X pins σ H s) {a : Addr} {es : List E3} {kvs : List (PV × PV)} (h : Rd H a (dTO (cnOf X c) a es)) (r : RTs (cnOf X c) F ρ H kvs es) :
    ∃ ys, s.heap.DictOfH (nestedKind X.prog X.w) a ys ∧ Paired EV es ys ∧ (a == sysModules) = false ∧ es.length ≤ sizeLine ∧ ∀ x ∈ es, x.1.depth ≤ 8 := by
  obtain ⟨⟨h1, h2, h3, ys, p, o, ee, ep, g1, g2, g3, g4, g5⟩, _⟩ := h.ok I.hok
  exact ⟨ys, ⟨o, ee, ep, g1, g2, g3, g4, keys_is I r h3 p, g5⟩, p, h1, h2, h3⟩
theorem at_of {k : NestedKey} : ∀ {es : List E3} {ys : List (NestedKey × Addr × Value)}, Paired EV es ys → (valT es k = none ∧ atKey ys k = none) ∨ ∃ w p, valT es k = some w ∧ atKey ys k = some p ∧ RelV w p.2
  | _, _, .nil => .inl ⟨rfl, rfl⟩
  | _, _, .cons (b := y) (a := x) ⟨e1, e2, e3⟩ p => by
    by_cases e : x.1 = k
    · refine .inr ⟨x.2.2, y.2, by simp [valT, List.find?_cons, e], by simp [atKey, List.find?_cons, ← e1, e], e3⟩
    · rename_i es ys
      have a1 : valT (x :: es) k = valT es k := by simp [valT, List.find?_cons, e]
      have a2 : atKey (y :: ys) k = atKey ys k := by simp [atKey, List.find?_cons, ← e1, e]
      rw [a1, a2]
      exact at_of p
theorem any_of {k : NestedKey} : ∀ {es : List E3} {ys : List (NestedKey × Addr × Value)}, Paired EV es ys → (es.any fun x => decide (x.1 = k)) = (atKey ys k).isSome
  | _, _, .nil => rfl
  | _, _, .cons (b := y) (a := x) ⟨e1, e2, e3⟩ p => by
    rename_i es ys
    by_cases e : x.1 = k
    · simp [atKey, List.find?_cons, ← e1, e]
    · have a2 : atKey (y :: ys) k = atKey ys k := by simp [atKey, List.find?_cons, ← e1, e]
      rw [a2, ← any_of p]
      simp [e]
theorem put_map {k : NestedKey} {w : V} {v : Value} (r : RelV w v) : ∀ {es : List E3} {ys : List (NestedKey × Addr × Value)}, Paired EV es ys →
    Paired EV (es.map (fun x => if x.1 = k then (x.1, x.2.1, w) else x)) (ys.map (putAt k v))
  | _, _, .nil => .nil
  | _, _, .cons (b := y) (a := x) ⟨e1, e2, e3⟩ p => by
    refine .cons ?_ (put_map r p)
    unfold putAt
    rw [← e1]
    by_cases e : x.1 = k
    · simp only [if_pos e]; exact ⟨rfl, e2, r⟩
    · simp only [if_neg e]; exact ⟨e1, e2, e3⟩
theorem put_snoc {k : NestedKey} {w : V} {v : Value} {a : Addr} (r : RelV w v) : ∀ {es : List E3} {ys : List (NestedKey × Addr × Value)}, Paired EV es ys → Paired EV (es ++ [(k, a, w)]) (ys ++ [(k, a, v)])
  | _, _, .nil => .cons ⟨rfl, rfl, r⟩ .nil
  | _, _, .cons q p => .cons q (put_snoc r p)
theorem put_of {k : NestedKey} {w : V} {v : Value} {a : Addr} (r : RelV w v) {es : List E3} {ys : List (NestedKey × Addr × Value)} (p : Paired EV es ys) : Paired EV (putT es k a w) (storedH ys k a v) := by
  unfold putT storedH
  rw [any_of p]
  by_cases e : (atKey ys k).isSome = true
  · rw [if_pos e, if_pos e]
    exact put_map r p
  · rw [if_neg e, if_neg e]
    exact put_snoc r p
theorem putT_deep {k : NestedKey} {w : V} {a : Addr} {es : List E3} (h : ∀ x ∈ es, x.1.depth ≤ 8) (hk : k.depth ≤ 8) : ∀ x ∈ putT es k a w, x.1.depth ≤ 8 := by
  unfold putT
  split
  · intro x hx
    obtain ⟨y, hy, rfl⟩ := List.mem_map.mp hx
    split
    · exact h y hy
    · exact h y hy
  · intro x hx
    rcases List.mem_append.mp hx with z | z
    · exact h x z
    · rw [List.mem_singleton.mp z]; exact hk
theorem putT_len {k : NestedKey} {w : V} {a : Addr} {es : List E3} : (putT es k a w).length ≤ es.length + 1 := by
  unfold putT
  split
  · rw [List.length_map]; exact Nat.le_succ _
  · rw [List.length_append]; exact Nat.le_refl _
theorem key_is (I : Inv X pins σ H s) {k : PV} {v : V} {u : Value} (hk : keyT true k = true) (r : RV (cnOf X c) F ρ H k v) (ru : RelV v u) : ∃ nk b, toNK k = some nk ∧ nk.depth ≤ 8 ∧ v = .ref b ∧ u = .ref b ∧ (nestedKind X.prog X.w).is s.heap nk b := by
  cases k <;> simp only [keyT, if_true, Bool.false_eq_true] at hk
  rename_i xs
  obtain ⟨nk, e, d⟩ := keyOk_nk 8 _ hk
  simp only [RV] at r
  obtain ⟨b, vs, rfl, h1, h2⟩ := r
  cases ru
  refine ⟨nk, b, e, d, rfl, rfl, nk_is (c := c) (F := F) (ρ := ρ) I e (v := .ref b) ?_ rfl, d⟩
  simp only [RV]
  exact ⟨b, vs, rfl, h1, h2⟩
end
section
variable {Γ : Pg} {n : Nat} {c fa : Nat → Addr} {G : Fr} {N : List Str} {sc : Scope} {X : Cx} {κ : Cn} {cs : CS}
variable {a b e d : Expr} {da db dd : DE} {pos : Pos}
theorem rr_rv {F : Addr → Prop} {ρ : List Addr} {H : Hp} {k : PV} {v : V} {t : Bool} (h : keyT t k = true) (r : RR κ F ρ H k v) : RV κ F ρ H k v := by
  cases k <;> cases t <;> simp [keyT] at h <;> exact r

def rInDk (X : Cx) (c : Nat → Addr) (neg : Bool) : R2 := fun x y H Q => ∃ F ρ k kvs es a, keyT true k = true ∧ RV (cnOf X c) F ρ H k x ∧ y = .ref a ∧ Rd H a (dTO (cnOf X c) a es) ∧ RTs (cnOf X c) F ρ H kvs es ∧ Q (.bl (if neg then !(find k kvs).isSome else (find k kvs).isSome)) H
theorem room8 {A : Around} (h : A.units + 64 < cLine) (P : Program) (w : World) : (nestedKind P w).room A.in1 := by
  show A.units + 1 + 8 < cLine
  omega
theorem op_inDk (hu : X.A.units + 64 < cLine) : OpR X (compareOp .In) (rInDk X c false) := by
  intro pins s σ H x y v u Q I rx ry h
  obtain ⟨F, ρ, k, kvs, es, a, hk, rk, rfl, ha, rt, q⟩ := h
  cases ry
  obtain ⟨nk, b, e, d8, rfl, rfl, is⟩ := key_is I hk rk rx
  obtain ⟨ys, hd, p, sys, _, _⟩ := dT_of I ha rt
  refine wpAny_in_heap (room8 hu _ _) is sys hd ?_
  refine ⟨.bl _, H, I.tok _, ?_, q⟩
  show _ = _
  congr 1
  simp only [Bool.false_eq_true, if_false]
  rcases rt.find e with ⟨e1, e2⟩ | ⟨pv, w, e1, e2, _⟩ <;> rcases at_of (k := nk) p with ⟨e3, e4⟩ | ⟨w', p', e3, e4, _⟩
  · rw [e1, e4]; rfl
  · rw [e2] at e3; cases e3
  · rw [e2] at e3; cases e3
  · rw [e1, e4]; rfl
def rInKk (neg : Bool) : R2 := fun x y H Q => ∃ a o, y = .ref a ∧ DGet H a x o ∧ Q (.bl (if neg then !o.isSome else o.isSome)) H
theorem op_inKk (hu : X.A.units + 1 < cLine) : OpR X (compareOp .In) (rInKk false) := by
  intro pins s σ H x y v u Q I rx ry h
  obtain ⟨a, o, rfl, g, q⟩ := h
  cases ry
  exact d_in hu I g rx fun s3 I3 => ⟨.bl o.isSome, H, I3, rfl, q⟩
theorem get_k {F : Addr → Prop} {ρ : List Addr} {H : Hp} {k : PV} {x : V} {kvs : List (PV × PV)} {es : List (Key × V)} {a : Addr} (hk : keyT false k = true) (rk : RV κ F ρ H k x) (h : Rd H a (.dK es)) (r : RKs κ F ρ H kvs es) :
    (find k kvs = none ∧ DGet H a x none) ∨ ∃ p w, find k kvs = some p ∧ DGet H a x (some w) ∧ RV κ F ρ H p w := by
  obtain ⟨kk, e⟩ := keyT_false hk
  have ex := rv_key e rk
  subst ex
  have g : DGet H a (kV kk) (valV es kk) := .inl ⟨es, kk, h, rfl, rfl⟩
  rcases r.find e with ⟨e1, e2⟩ | ⟨p, w, e1, e2, rv⟩
  · rw [e2] at g; exact .inl ⟨e1, g⟩
  · rw [e2] at g; exact .inr ⟨p, w, e1, g, rv⟩
theorem o_in : Op2 Γ N sc (compareOp .In) O.in := fun n c fa G X g => by
  refine ⟨_, OpR.or (op_inD g.u65) (OpR.or (op_inT g.u65) (OpR.or (op_inKk g.u1) (op_inDk (c := c) g.u64))), ?_⟩
  intro ρ st H p q v x y Q A rp rq ef k
  unfold O.in O.inB at ef
  split at ef
  · rename_i xs
    split at ef
    · rename_i hf
      rw [Bool.and_eq_true] at hf
      cases ef
      refine .inr (.inl ⟨toPD p, toPDs xs, dp_rr hf.1 rp, dp_rr (n := 60) (p := .tup xs) hf.2 rq, shapedS hf.1, shaped60 (x := .tup xs) hf.2, ?_⟩)
      refine now A k ?_
      simp only [RV, Bool.false_eq_true, if_false]
      rw [any_pd hf.1 xs hf.2]
    · cases ef
  · rename_i xs
    split at ef
    · rename_i hf
      rw [Bool.and_eq_true] at hf
      cases ef
      refine .inl ⟨toPD p, toPDs xs, dp_rr hf.1 rp, dp_rr (n := 60) (p := .lst xs) hf.2 rq, shapedS hf.1, shaped60 (x := .lst xs) hf.2, ?_⟩
      refine now A k ?_
      simp only [RV]
      rw [any_pd hf.1 xs hf.2]
    · cases ef
  · rename_i t kvs
    split at ef
    · rename_i hk
      cases ef
      cases t with
      | false =>
        obtain ⟨a, es, rfl, h1, h2⟩ := rq
        rcases get_k hk (rr_rv hk rp) h1 h2 with ⟨e1, g1⟩ | ⟨pv, w, e1, g1, _⟩
        · refine .inr (.inr (.inl ⟨a, none, rfl, g1, now A k ?_⟩))
          simp only [RV, Bool.false_eq_true, if_false]
          rw [e1]; rfl
        · refine .inr (.inr (.inl ⟨a, some w, rfl, g1, now A k ?_⟩))
          simp only [RV, Bool.false_eq_true, if_false]
          rw [e1]; rfl
      | true =>
        obtain ⟨a, es, rfl, h1, h2⟩ := rq
        refine .inr (.inr (.inr ⟨_, ρ, p, kvs, es, a, hk, rr_rv hk rp, rfl, h1, h2, now A k ?_⟩))
        simp only [RV, Bool.false_eq_true, if_false]
    · cases ef
  · cases ef

def rIxKk : R2 := fun x y H Q => ∃ a v, x = .ref a ∧ DGet H a y (some v) ∧ Q v H
theorem ix_kk (hu : X.A.units + 1 < cLine) : IxR X rIxKk := by
  intro value slice pins s σ H x y v u Q I rx ry h hs
  obtain ⟨a, w, rfl, g, q⟩ := h
  cases rx
  exact PyProof.Rows.tail_any (dict_typeIs I g) PySem.F.slot_dict_getitem.lookup (d_getItem hu I g ry fun w' s3 I3 rw' => ⟨w, H, I3, rw', q⟩) hs
def rIxDk (X : Cx) (c : Nat → Addr) : R2 := fun x y H Q => ∃ F ρ k kvs es a p, keyT true k = true ∧ RV (cnOf X c) F ρ H k y ∧ x = .ref a ∧ Rd H a (dTO (cnOf X c) a es) ∧ RTs (cnOf X c) F ρ H kvs es ∧ find k kvs = some p ∧ ∀ w, RV (cnOf X c) F ρ H p w → Q w H
theorem ix_dk (hu : X.A.units + 64 < cLine) : IxR X (rIxDk X c) := by
  intro value slice pins s σ H x y v u Q I rx ry h hs
  obtain ⟨F, ρ, k, kvs, es, a, p, hk, rk, rfl, ha, rt, ef, q⟩ := h
  cases rx
  obtain ⟨nk, b, e, d8, rfl, rfl, is⟩ := key_is I hk rk ry
  obtain ⟨ys, hd, pr, sys, _, _⟩ := dT_of I ha rt
  refine PyProof.Rows.tail_any hd.typeIs PySem.F.slot_dict_getitem.lookup ?_ hs
  rcases rt.find e with ⟨e1, e2⟩ | ⟨pv, w, e1, e2, rv⟩
  · rw [e1] at ef; cases ef
  · rw [ef] at e1
    cases e1
    rcases at_of (k := nk) pr with ⟨e3, e4⟩ | ⟨w', p', e3, e4, rw'⟩
    · rw [e2] at e3; cases e3
    · rw [e2] at e3
      cases e3
      exact wpAny_getItem_heap (room8 hu _ _) is hd e4 ⟨w, H, I.tok _, rw', q w rv⟩
theorem ixN_eq (n : Nat) (i : Int) : ixP n i = ixN n i := rfl
theorem o_item (ha : SE Γ N sc a da) (hb : SE Γ N sc b db) (hs : ∀ o i, subscripted b false o i = operate [o, i] (getItem o i) := by intro _ _; rfl) : SE Γ N sc (.Subscript a b pos) (D.op2 O.item da db) := fun n c fa G X g => by
  refine (pe_ix (IxR.or ix_tup (IxR.or ix_list (IxR.or (ix_kk g.u1) (ix_dk (c := c) g.u64)))) (ha n c fa G X g) (hb n c fa G X g) hs).imp fun σ H Q q => op2_read ?_ q
  intro ρ st H p q v x y Q A rp rq ef k
  have sub : ∀ {ps : List PV} {xs : List V} {i : Int}, RVs (cnOf X c) (Fo G.B ρ) ρ H ps xs → getL ps i = some v → ∃ w, atI xs i = some w ∧ RV (cnOf X c) (Fo G.B ρ) ρ H v w := by
    intro ps xs i r e
    unfold getL at e
    obtain ⟨j, e1, e2⟩ := Option.bind_eq_some_iff.mp e
    obtain ⟨w, e3, rv⟩ := r.get e2
    refine ⟨w, ?_, rv⟩
    unfold atI
    rw [← r.length, ← ixN_eq, e1]
    exact e3
  unfold O.item at ef
  split at ef
  · obtain ⟨a, xs, rfl, h1, r1⟩ := rr_tup rp
    obtain ⟨w, e, rv⟩ := sub r1 ef
    exact .inl ⟨a, xs, _, w, rfl, rr_int rq, h1, e, now A k rv⟩
  · obtain ⟨a, xs, rfl, h1, r1⟩ := rr_lst rp
    obtain ⟨w, e, rv⟩ := sub r1 ef
    exact .inr (.inl ⟨a, xs, _, w, rfl, rr_int rq, SqL.of h1, e, now A k rv⟩)
  · rename_i ns i
    simp only [RR, RV] at rp
    obtain ⟨a, rfl, h1⟩ := rp
    have h1' : SqL X.K H a (ns.map V.int) := by
      rcases h1 with ⟨h1, _⟩ | h1
      · exact .inl h1
      · rcases h1 with (h1 | ⟨_, h1⟩) | h1
        · cases h1
        · cases h1
        · exact .inr h1
    unfold getL at ef
    obtain ⟨j, e1, e2⟩ := Option.bind_eq_some_iff.mp ef
    rw [List.getElem?_map] at e2
    obtain ⟨m, e3, rfl⟩ := Option.map_eq_some_iff.mp e2
    refine .inr (.inl ⟨a, _, _, .int m, rfl, rr_int rq, h1', ?_, now A k (by simp only [RV])⟩)
    unfold atI
    rw [List.length_map] at e1 ⊢
    rw [← ixN_eq, e1]
    show (ns.map V.int)[j]? = _
    rw [List.getElem?_map, e3]
    rfl
  · rename_i t kvs
    split at ef
    · rename_i hk
      cases t with
      | false =>
        obtain ⟨a, es, rfl, h1, h2⟩ := rp
        rcases get_k hk (rr_rv hk rq) h1 h2 with ⟨e1, g1⟩ | ⟨pv, w, e1, g1, rv⟩
        · rw [ef] at e1; cases e1
        · rw [ef] at e1
          cases e1
          exact .inr (.inr (.inl ⟨a, w, rfl, g1, now A k rv⟩))
      | true =>
        obtain ⟨a, es, rfl, h1, h2⟩ := rp
        exact .inr (.inr (.inr ⟨_, ρ, _, kvs, es, a, v, hk, rr_rv hk rq, rfl, h1, h2, ef, fun w rv => now A k rv⟩))
    · cases ef
  · cases ef
end
end Dn


namespace Dn
open PySem L2
section
variable {Γ : Pg} {n : Nat} {c fa : Nat → Addr} {G : Fr} {N : List Str} {sc : Scope} {X : Cx} {κ : Cn} {cs : CS}
variable {a b e d : Expr} {da db dd : DE} {pos p : Pos}

def CS1 (κ : Cn) (G : Fr) (f : PV → Option PV) (r : List V → Hp → VK → Prop) : Prop := ∀ ρ st H p v x Q, At κ G ρ st H → RR κ (Fo G.B ρ) ρ H p x → f p = some v →
  (∀ ρ' H' u, Ext ρ H ρ' H' → At κ G ρ' st H' → RV κ (Fo G.B ρ') ρ' H' v u → Q u H') → r [x] H Q
def CS2 (κ : Cn) (G : Fr) (f : PV → PV → Option PV) (r : List V → Hp → VK → Prop) : Prop := ∀ ρ st H p q v x y Q, At κ G ρ st H → RR κ (Fo G.B ρ) ρ H p x → RR κ (Fo G.B ρ) ρ H q y → f p q = some v →
  (∀ ρ' H' u, Ext ρ H ρ' H' → At κ G ρ' st H' → RV κ (Fo G.B ρ') ρ' H' v u → Q u H') → r [x, y] H Q
theorem cs1_read {r : List V → Hp → VK → Prop} {f : PV → Option PV} (s : CS1 κ G f r) {σ : St} {H : Hp} {Q : VK} (h : tE κ G cs (D.op1 f da) σ H Q) : tCB r (tCons (tE κ G cs da) tNil) σ H Q := by
  obtain ⟨ρ, st, σp, A, R, o⟩ := h
  refine tE_bind A R o fun v st1 ρ1 H1 u e1 A1 R1 ru o1 => ?_
  obtain ⟨res, ef, k⟩ := o1.of
  exact s ρ1 st1 H1 _ res u Q A1 (RR.of A1.wd ru) ef fun ρ' H' u' e' A' r' => k ρ' H' e' A' u' r'
theorem cs2_read {r : List V → Hp → VK → Prop} {f : PV → PV → Option PV} (s : CS2 κ G f r) {σ : St} {H : Hp} {Q : VK} (h : tE κ G cs (D.op2 f da db) σ H Q) : tCB r (tCons (tE κ G cs da) (tCons (tE κ G cs db) tNil)) σ H Q := by
  obtain ⟨ρ, st, σp, A, R, o⟩ := h
  refine tE_bind A R o fun v st1 ρ1 H1 u e1 A1 R1 ru o1 => ?_
  refine tE_bind A1 R1 o1 fun w st2 ρ2 H2 z e2 A2 R2 rz o2 => ?_
  obtain ⟨res, ef, k⟩ := o2.of
  exact s ρ2 st2 H2 _ _ res u z Q A2 (RR.of A2.wd (ru.mono e2.mono)) (RR.of A2.wd rz) ef fun ρ' H' u' e' A' r' => k ρ' H' e' A' u' r'
def okB (Γ : Pg) (sc : Scope) (x : Str) : Bool := GlB sc x && nameOk x && Γ.free.contains x
theorem okB_gl {x : Str} (g : Good Γ n c fa G N sc X) (h : okB Γ sc x = true) : Gl X x ∧ X.mg x = none ∧ x ≠ ("__name__" : Str) ∧ (x == ("__debug__" : Str)) = false := by
  unfold okB at h
  simp only [Bool.and_eq_true] at h
  exact ⟨gl_of g h.1.1, g.env.bl x (by simpa using h.2), nameOk_n h.1.2, nameOk_d h.1.2⟩
theorem SE.blt1 {x : Str} {id : String} {f : PV → Option PV} (hx : okB Γ sc x = true) (hv : bootBuiltins x = some (.builtin id))
    (h : ∀ (n : Nat) (c fa : Nat → Addr) (G : Fr) (X : Cx), Good Γ n c fa G N sc X → ∃ r, CallR X (.builtin id) r ∧ CS1 (cnOf X c) G f r) (ha : SE Γ N sc a da)
    (hst : ∀ env, starEach [a] env = (false, eval a env) :: starEach [] env := by intro _; rfl) : SE Γ N sc (.Call (.Name x p) [a] [] pos) (D.op1 f da) := fun n c fa G X g => by
  obtain ⟨r, h1, h2⟩ := h n c fa G X g
  obtain ⟨g1, g2, g3, g4⟩ := okB_gl g hx
  exact (pe_callB h1 g1 g2 hv (pa_cons (ha n c fa G X g) pa_nil (hst _)) g3 g4 (hst _) rfl).imp fun σ H Q q => cs1_read h2 q
theorem SE.blt2 {x : Str} {id : String} {f : PV → PV → Option PV} (hx : okB Γ sc x = true) (hv : bootBuiltins x = some (.builtin id))
    (h : ∀ (n : Nat) (c fa : Nat → Addr) (G : Fr) (X : Cx), Good Γ n c fa G N sc X → ∃ r, CallR X (.builtin id) r ∧ CS2 (cnOf X c) G f r) (ha : SE Γ N sc a da) (hb : SE Γ N sc b db)
    (hst : ∀ env, starEach [a, b] env = [(false, eval a env), (false, eval b env)] := by intro _; rfl) (hst2 : ∀ env, starEach [b] env = [(false, eval b env)] := by intro _; rfl) : SE Γ N sc (.Call (.Name x p) [a, b] [] pos) (D.op2 f da db) := fun n c fa G X g => by
  obtain ⟨r, h1, h2⟩ := h n c fa G X g
  obtain ⟨g1, g2, g3, g4⟩ := okB_gl g hx
  have e1 : starEach [a, b] X.env = (false, eval a X.env) :: starEach [b] X.env := by rw [hst, hst2]
  exact (pe_callB h1 g1 g2 hv (pa_cons (ha n c fa G X g) (pa_cons (hb n c fa G X g) pa_nil (hst2 _)) e1) g3 g4 e1 (by rw [hst2]; rfl)).imp fun σ H Q q => cs2_read h2 q
theorem SE.ty1 {x : Str} {T : String} {f : PV → Option PV} (hx : okB Γ sc x = true) (hv : bootBuiltins x = some (.type T))
    (h : ∀ (n : Nat) (c fa : Nat → Addr) (G : Fr) (X : Cx), Good Γ n c fa G N sc X → ∃ r, CallR X (.type T) r ∧ CS1 (cnOf X c) G f r) (ha : SE Γ N sc a da)
    (hst : ∀ env, starEach [a] env = (false, eval a env) :: starEach [] env := by intro _; rfl) : SE Γ N sc (.Call (.Name x p) [a] [] pos) (D.op1 f da) := fun n c fa G X g => by
  obtain ⟨r, h1, h2⟩ := h n c fa G X g
  obtain ⟨g1, g2, g3, g4⟩ := okB_gl g hx
  exact (pe_callTy h1 g1 g2 hv (pa_cons (ha n c fa G X g) pa_nil (hst _)) g3 g4 (hst _) rfl).imp fun σ H Q q => cs1_read h2 q
theorem rr_scr {F : Addr → Prop} {ρ : List Addr} {H : Hp} {ns : List Int} {u : V} (h : RR κ F ρ H (.scr ns) u) : ∃ a, u = .ref a ∧ SqL κ.K H a (ns.map V.int) := by
  simp only [RR, RV] at h
  obtain ⟨a, rfl, h1⟩ := h
  refine ⟨a, rfl, ?_⟩
  rcases h1 with ⟨h1, _⟩ | h1
  · exact .inl h1
  · rcases h1 with (h1 | ⟨_, h1⟩) | h1
    · cases h1
    · cases h1
    · exact .inr h1
def rLenDk (X : Cx) (c : Nat → Addr) : List V → Hp → VK → Prop := fun vs H Q => ∃ F ρ kvs es a, vs = [.ref a] ∧ Rd H a (dTO (cnOf X c) a es) ∧ RTs (cnOf X c) F ρ H kvs es ∧ Q (.int kvs.length) H
theorem call_lenDk : CallR X (.builtin "len") (rLenDk X c) := by
  intro pins s σ H xs us Q I r h
  obtain ⟨F, ρ, kvs, es, a, rfl, ha, rt, q⟩ := h
  obtain ⟨u, rfl, rx⟩ := Vals.one r
  cases rx
  obtain ⟨ys, hd, p, sys, hl, _⟩ := dT_of I ha rt
  obtain ⟨ee, ep, hr, hz, _⟩ := hd.raw
  have l1 : ys.length = kvs.length := by rw [rt.length]; exact (Paired.length p).symm
  have hl' : kvs.length ≤ 16777216 := by
    rw [rt.length]
    rw [sizeLine_eq] at hl
    exact hl
  refine PyProof.Rows.call_len_slot (n := kvs.length) hd.typeIs PySem.F.slot_dict_len (fun Q' hq => ?_) (by omega) (by omega) ?_
  · refine call_len_raw sys hr ?_
    rw [hz, l1]
    exact hq
  · exact ⟨.int _, H, I.tok _, ⟨_, rfl⟩, q⟩
theorem call_lenR : CallR X (.builtin "len") (fun xs H Q => ∃ a, ∃ kvs : List (Key × V), xs = [V.ref a] ∧ Rd H a (.dK kvs) ∧ Q (.int kvs.length) H) := by
  intro pins s σ H xs us Q I r h
  obtain ⟨a, kvs, rfl, ha, q⟩ := h
  obtain ⟨u, rfl, ru⟩ := vals1 r
  cases ru
  exact d_len I ha fun t s' I' => ⟨.int kvs.length, H, I', ⟨t, rfl⟩, q⟩
theorem o_len (hx : okB Γ sc ("len" : Str) = true) (ha : SE Γ N sc a da) (hst : ∀ env, starEach [a] env = (false, eval a env) :: starEach [] env := by intro _; rfl) : SE Γ N sc (.Call (.Name ("len" : Str) p) [a] [] pos) (D.op1 O.len da) := by
  refine SE.blt1 hx (by decide +kernel) (fun n c fa G X g => ⟨_, CallR.or call_len_seq (CallR.or call_lenR (call_lenDk (c := c))), ?_⟩) ha hst
  intro ρ st H p v x Q A rp ef k
  unfold O.len at ef
  split at ef
  · cases ef
    obtain ⟨a, xs, rfl, h1, r1⟩ := rr_tup rp
    exact .inl ⟨a, xs, rfl, .inr h1, now A k (by simp only [RV]; rw [r1.length])⟩
  · cases ef
    obtain ⟨a, xs, rfl, h1, r1⟩ := rr_lst rp
    exact .inl ⟨a, xs, rfl, .inl (SqL.of h1), now A k (by simp only [RV]; rw [r1.length])⟩
  · cases ef
    obtain ⟨a, rfl, h1⟩ := rr_scr rp
    exact .inl ⟨a, _, rfl, .inl h1, now A k (by simp only [RV]; rw [List.length_map])⟩
  · rename_i t kvs
    cases ef
    cases t with
    | false =>
      obtain ⟨a, es, rfl, h1, h2⟩ := rp
      exact .inr (.inl ⟨a, es, rfl, h1, now A k (by simp only [RV]; rw [h2.length])⟩)
    | true =>
      obtain ⟨a, es, rfl, h1, h2⟩ := rp
      exact .inr (.inr ⟨_, ρ, kvs, es, a, rfl, h1, h2, now A k (by simp only [RV])⟩)
  · cases ef
theorem bools_rv {F : Addr → Prop} {ρ : List Addr} {H : Hp} : ∀ {ps : List PV} {xs : List V} {bs : List Bool}, O.bools ps = some bs → RVs κ F ρ H ps xs → xs = bs.map V.bl
  | [], xs, bs, h, r => by
    simp only [O.bools, Option.some.injEq] at h
    subst h
    simp only [RVs] at r
    rw [r]
    rfl
  | p :: ps, xs, bs, h, r => by
    cases p <;> simp only [O.bools, reduceCtorEq] at h
    obtain ⟨t, e, rfl⟩ := Option.map_eq_some_iff.mp h
    simp only [RVs] at r
    obtain ⟨w, r', rfl, h1, h2⟩ := r
    rw [rv_bl h1, bools_rv e h2]
    rfl
theorem ints_rv {F : Addr → Prop} {ρ : List Addr} {H : Hp} : ∀ {ps : List PV} {xs : List V} {bs : List Int}, O.intsP ps = some bs → RVs κ F ρ H ps xs → xs = bs.map V.int
  | [], xs, bs, h, r => by
    simp only [O.intsP, Option.some.injEq] at h
    subst h
    simp only [RVs] at r
    rw [r]
    rfl
  | p :: ps, xs, bs, h, r => by
    cases p <;> simp only [O.intsP, reduceCtorEq] at h
    obtain ⟨t, e, rfl⟩ := Option.map_eq_some_iff.mp h
    simp only [RVs] at r
    obtain ⟨w, r', rfl, h1, h2⟩ := r
    rw [rv_int h1, ints_rv e h2]
    rfl
theorem o_all (hx : okB Γ sc ("all" : Str) = true) (ha : SE Γ N sc a da) (hst : ∀ env, starEach [a] env = (false, eval a env) :: starEach [] env := by intro _; rfl) : SE Γ N sc (.Call (.Name ("all" : Str) p) [a] [] pos) (D.op1 O.all da) := by
  refine SE.blt1 hx (by decide +kernel) (fun n c fa G X g => ⟨_, cr_all g.calm, ?_⟩) ha hst
  intro ρ st H p v x Q A rp ef k
  unfold O.all at ef
  split at ef
  · obtain ⟨bs, e, rfl⟩ := Option.map_eq_some_iff.mp ef
    obtain ⟨a, xs, rfl, h1, r1⟩ := rr_lst rp
    have := bools_rv e r1
    subst this
    exact ⟨a, bs, rfl, SqL.of h1, now A k (by simp only [RV])⟩
  · cases ef
theorem o_sum (hx : okB Γ sc ("sum" : Str) = true) (ha : SE Γ N sc a da) (hst : ∀ env, starEach [a] env = (false, eval a env) :: starEach [] env := by intro _; rfl) : SE Γ N sc (.Call (.Name ("sum" : Str) p) [a] [] pos) (D.op1 O.sum da) := by
  refine SE.blt1 hx (by decide +kernel) (fun n c fa G X g => ⟨_, cr_sum g.calm, ?_⟩) ha hst
  intro ρ st H p v x Q A rp ef k
  unfold O.sum at ef
  split at ef
  · obtain ⟨bs, e, rfl⟩ := Option.map_eq_some_iff.mp ef
    obtain ⟨a, xs, rfl, h1, r1⟩ := rr_lst rp
    have := ints_rv e r1
    subst this
    exact ⟨a, bs, rfl, SqL.of h1, now A k (by simp only [RV])⟩
  · cases ef
theorem o_max2 (hx : okB Γ sc ("max" : Str) = true) (ha : SE Γ N sc a da) (hb : SE Γ N sc b db) (hst : ∀ env, starEach [a, b] env = [(false, eval a env), (false, eval b env)] := by intro _; rfl) (hst2 : ∀ env, starEach [b] env = [(false, eval b env)] := by intro _; rfl) :
    SE Γ N sc (.Call (.Name ("max" : Str) p) [a, b] [] pos) (D.op2 O.max2 da db) := by
  refine SE.blt2 hx (by decide +kernel) (fun n c fa G X g => ⟨_, call_max2 g.calm, ?_⟩) ha hb hst hst2
  intro ρ st H p q v x y Q A rp rq ef k
  unfold O.max2 at ef
  split at ef
  · cases ef
    rw [rr_int rp, rr_int rq]
    exact ⟨_, _, rfl, now A k (by simp only [RV])⟩
  · cases ef
theorem o_min2 (hx : okB Γ sc ("min" : Str) = true) (ha : SE Γ N sc a da) (hb : SE Γ N sc b db) (hst : ∀ env, starEach [a, b] env = [(false, eval a env), (false, eval b env)] := by intro _; rfl) (hst2 : ∀ env, starEach [b] env = [(false, eval b env)] := by intro _; rfl) :
    SE Γ N sc (.Call (.Name ("min" : Str) p) [a, b] [] pos) (D.op2 O.min2 da db) := by
  refine SE.blt2 hx (by decide +kernel) (fun n c fa G X g => ⟨_, call_min2 g.calm, ?_⟩) ha hb hst hst2
  intro ρ st H p q v x y Q A rp rq ef k
  unfold O.min2 at ef
  split at ef
  · cases ef
    rw [rr_int rp, rr_int rq]
    exact ⟨_, _, rfl, now A k (by simp only [RV])⟩
  · cases ef
theorem o_tuple (hx : okB Γ sc ("tuple" : Str) = true) (ha : SE Γ N sc a da) (hst : ∀ env, starEach [a] env = (false, eval a env) :: starEach [] env := by intro _; rfl) : SE Γ N sc (.Call (.Name ("tuple" : Str) p) [a] [] pos) (D.op1 O.tuple da) := by
  refine SE.ty1 hx (by decide +kernel) (fun n c fa G X g => ⟨_, call_tupleF, ?_⟩) ha hst
  intro ρ st H p v x Q A rp ef k
  unfold O.tuple at ef
  split at ef
  · cases ef
    obtain ⟨a, xs, rfl, h1, r1⟩ := rr_lst rp
    exact ⟨a, xs, rfl, .inl ⟨SqL.of h1, fun p ob hp od => newT A k r1 hp od⟩⟩
  · cases ef
    obtain ⟨a, xs, rfl, h1, r1⟩ := rr_tupD rp
    exact ⟨a, xs, rfl, .inr ⟨h1.sqT, now A k (by simp only [RV]; exact ⟨a, xs, rfl, h1, r1⟩)⟩⟩
  · cases ef
theorem SEF.list (hx : okB Γ sc ("list" : Str) = true) (ha : SE Γ N sc a da) (hst : ∀ env, starEach [a] env = (false, eval a env) :: starEach [] env := by intro _; rfl) : SEF Γ N sc (.Call (.Name ("list" : Str) p) [a] [] pos) (D.op1 O.list da) := fun n c fa G X g => by
  obtain ⟨g1, g2, g3, g4⟩ := okB_gl g hx
  refine (pe_callTy call_list_of g1 g2 (by decide +kernel) (pa_cons (ha n c fa G X g) pa_nil (hst _)) g3 g4 (hst _) rfl).imp ?_
  rintro σ H Q ⟨ρ, st, σp, A, R, o⟩
  refine tE_bind A R o fun v st1 ρ1 H1 u e1 A1 R1 ru o1 => ?_
  obtain ⟨res, ef, k⟩ := o1.of
  have rp := RR.of A1.wd ru
  obtain ⟨ps, rfl, k2⟩ := k ρ1 H1 Ext.refl A1
  unfold O.list at ef
  split at ef
  · rename_i eq
    cases ef
    rw [eq] at rp
    obtain ⟨a, xs, rfl, h1, r1⟩ := rr_lst rp
    exact ⟨a, xs, rfl, .inl (SqL.of h1), fun l hl => k2 xs l r1 hl⟩
  · rename_i eq
    cases ef
    rw [eq] at rp
    obtain ⟨a, xs, rfl, h1, r1⟩ := rr_tup rp
    exact ⟨a, xs, rfl, .inr h1, fun l hl => k2 xs l r1 hl⟩
  · cases ef
theorem lo_op1 {f : PV → Option PV} (h : ∀ p v, f p = some v → ∃ ps, v = .lst ps) : LstOnly (D.op1 f da) := fun cs σ st v st' q => lstOnly_bind q fun x st1 _ q => by
  cases e : f (deref st1 x) with
  | none => rw [e] at q; cases q
  | some w => rw [e] at q; cases q; exact h _ _ e
theorem lo_list : LstOnly (D.op1 O.list da) := lo_op1 fun p v h => by
  unfold O.list at h
  split at h <;> cases h <;> exact ⟨_, rfl⟩

theorem rv_ty {F : Addr → Prop} {ρ : List Addr} {H : Hp} {p : PV} {x : V} (r : RR κ F ρ H p x) : (∀ b, p = .bl b → TyX κ.K H x (.type "bool")) ∧ (∀ b, p = .int b → TyX κ.K H x (.type "int")) ∧ (∀ b, p = .str b → TyX κ.K H x (.type "str")) ∧ (p = .non → TyX κ.K H x (.type "NoneType")) ∧
    (∀ b, p = .tup b → TyX κ.K H x (.type "tuple")) ∧ (∀ b, p = .lst b → TyX κ.K H x (.type "list")) ∧ (∀ b, p = .dic false b → TyX κ.K H x (.type "dict")) := by
  refine ⟨fun b e => ?_, fun b e => ?_, fun b e => ?_, fun e => ?_, fun b e => ?_, fun b e => ?_, fun b e => ?_⟩ <;> subst e
  · rw [rr_bl r]; exact .base (.bl b)
  · rw [rr_int r]; exact .base (.int b)
  · rw [rr_str r]; exact .base (.str b)
  · rw [rr_non r]; exact .base .non
  · obtain ⟨a, xs, rfl, h1, _⟩ := rr_tup r
    rcases h1 with (h1 | ⟨o, h1⟩) | ⟨o, _, _, hl, hc, _⟩
    · exact .base (.tup h1)
    · exact .fTuple h1
    · exact .kTuple hl hc
  · obtain ⟨a, xs, rfl, h1, _⟩ := rr_lst r
    exact .base (.lst h1)
  · obtain ⟨a, es, rfl, h1, _⟩ := r
    rcases h1 with h1 | ⟨o, h1⟩
    · exact .base (.dK h1)
    · exact .fDict h1
def tyName : PV → Option String
  | .bl _ => some "bool"
  | .int _ => some "int"
  | .str _ => some "str"
  | .non => some "NoneType"
  | .tup _ => some "tuple"
  | .lst _ => some "list"
  | .dic false _ => some "dict"
  | _ => none
theorem ty_of {F : Addr → Prop} {ρ : List Addr} {H : Hp} {p : PV} {x : V} {T : String} (r : RR κ F ρ H p x) (h : tyName p = some T) : TyX κ.K H x (.type T) := by
  obtain ⟨h1, h2, h3, h4, h5, h6, h7⟩ := rv_ty r
  cases p with
  | non => simp only [tyName, Option.some.injEq] at h; subst h; exact h4 rfl
  | bl b => simp only [tyName, Option.some.injEq] at h; subst h; exact h1 b rfl
  | int b => simp only [tyName, Option.some.injEq] at h; subst h; exact h2 b rfl
  | str b => simp only [tyName, Option.some.injEq] at h; subst h; exact h3 b rfl
  | tup b => simp only [tyName, Option.some.injEq] at h; subst h; exact h5 b rfl
  | lst b => simp only [tyName, Option.some.injEq] at h; subst h; exact h6 b rfl
  | dic t b => cases t <;> simp only [tyName, Option.some.injEq, reduceCtorEq] at h; subst h; exact h7 b rfl
  | ref b => simp [tyName] at h
  | scr b => simp [tyName] at h
theorem SE.isTy {x : Str} {T : String} {f : PV → Option PV} {q : Pos} (hx : okB Γ sc ("isinstance" : Str) = true) (hT : okB Γ sc x = true) (hv : bootBuiltins x = some (.type T))
    (hf : ∀ p v, f p = some v → ∃ T' b, tyName p = some T' ∧ v = .bl b ∧ ∀ K, PySem.W.kitOne K (.type T') (.type T) = some b) (ha : SE Γ N sc a da)
    (hst : ∀ env, starEach [a, .Name x q] env = (false, eval a env) :: starEach [.Name x q] env := by intro _; rfl) : SE Γ N sc (.Call (.Name ("isinstance" : Str) p) [a, .Name x q] [] pos) (D.op1 f da) := fun n c fa G X g => by
  obtain ⟨g1, g2, g3, g4⟩ := okB_gl g hx
  obtain ⟨t1, t2, t3, t4⟩ := okB_gl g hT
  refine (pe_callB call_isi g1 g2 (by decide +kernel) (pa_cons (ha n c fa G X g) (pa_cons (pe_bltn (v := .ty T) t1 t2 hv rfl t3 t4) pa_nil) (hst _)) g3 g4 (hst _) rfl).imp ?_
  rintro σ H Q ⟨ρ, st, σp, A, R, o⟩
  refine tE_bind A R o fun v st1 ρ1 H1 u e1 A1 R1 ru o1 => ?_
  obtain ⟨res, ef, k⟩ := o1.of
  obtain ⟨T', b, ht, rfl, hk⟩ := hf _ _ ef
  exact ⟨u, .ty T, .type T', .type T, b, rfl, .ty T, ty_of (RR.of A1.wd ru) ht, hk _, now (v := .bl b) A1 (fun ρ' H' u e A r => k ρ' H' e A u r) (by simp only [RV])⟩
theorem o_isTup (hx : okB Γ sc ("isinstance" : Str) = true) (hT : okB Γ sc ("tuple" : Str) = true) (ha : SE Γ N sc a da) {q : Pos} (hst : ∀ env, starEach [a, .Name ("tuple" : Str) q] env = (false, eval a env) :: starEach [.Name ("tuple" : Str) q] env := by intro _; rfl) :
    SE Γ N sc (.Call (.Name ("isinstance" : Str) p) [a, .Name ("tuple" : Str) q] [] pos) (D.op1 O.isTup da) := by
  refine SE.isTy hx hT (T := "tuple") (by decide +kernel) (fun p v h => ?_) ha hst
  cases p with
  | non => cases h; exact ⟨_, _, rfl, rfl, fun K => by kernel_rfl⟩
  | bl b => cases h; exact ⟨_, _, rfl, rfl, fun K => by kernel_rfl⟩
  | int b => cases h; exact ⟨_, _, rfl, rfl, fun K => by kernel_rfl⟩
  | str b => cases h; exact ⟨_, _, rfl, rfl, fun K => by kernel_rfl⟩
  | tup b => cases h; exact ⟨_, _, rfl, rfl, fun K => by kernel_rfl⟩
  | lst b => cases h; exact ⟨_, _, rfl, rfl, fun K => by kernel_rfl⟩
  | dic t b => cases t <;> cases h; exact ⟨_, _, rfl, rfl, fun K => by kernel_rfl⟩
  | ref b => cases h
  | scr b => cases h
theorem o_isInt (hx : okB Γ sc ("isinstance" : Str) = true) (hT : okB Γ sc ("int" : Str) = true) (ha : SE Γ N sc a da) {q : Pos} (hst : ∀ env, starEach [a, .Name ("int" : Str) q] env = (false, eval a env) :: starEach [.Name ("int" : Str) q] env := by intro _; rfl) :
    SE Γ N sc (.Call (.Name ("isinstance" : Str) p) [a, .Name ("int" : Str) q] [] pos) (D.op1 O.isInt da) := by
  refine SE.isTy hx hT (T := "int") (by decide +kernel) (fun p v h => ?_) ha hst
  cases p with
  | non => cases h; exact ⟨_, _, rfl, rfl, fun K => by kernel_rfl⟩
  | bl b => cases h; exact ⟨_, _, rfl, rfl, fun K => by kernel_rfl⟩
  | int b => cases h; exact ⟨_, _, rfl, rfl, fun K => by kernel_rfl⟩
  | str b => cases h; exact ⟨_, _, rfl, rfl, fun K => by kernel_rfl⟩
  | tup b => cases h; exact ⟨_, _, rfl, rfl, fun K => by kernel_rfl⟩
  | lst b => cases h; exact ⟨_, _, rfl, rfl, fun K => by kernel_rfl⟩
  | dic t b => cases t <;> cases h; exact ⟨_, _, rfl, rfl, fun K => by kernel_rfl⟩
  | ref b => cases h
  | scr b => cases h
theorem o_isBool (hx : okB Γ sc ("isinstance" : Str) = true) (hT : okB Γ sc ("bool" : Str) = true) (ha : SE Γ N sc a da) {q : Pos} (hst : ∀ env, starEach [a, .Name ("bool" : Str) q] env = (false, eval a env) :: starEach [.Name ("bool" : Str) q] env := by intro _; rfl) :
    SE Γ N sc (.Call (.Name ("isinstance" : Str) p) [a, .Name ("bool" : Str) q] [] pos) (D.op1 O.isBool da) := by
  refine SE.isTy hx hT (T := "bool") (by decide +kernel) (fun p v h => ?_) ha hst
  cases p with
  | non => cases h; exact ⟨_, _, rfl, rfl, fun K => by kernel_rfl⟩
  | bl b => cases h; exact ⟨_, _, rfl, rfl, fun K => by kernel_rfl⟩
  | int b => cases h; exact ⟨_, _, rfl, rfl, fun K => by kernel_rfl⟩
  | str b => cases h; exact ⟨_, _, rfl, rfl, fun K => by kernel_rfl⟩
  | tup b => cases h; exact ⟨_, _, rfl, rfl, fun K => by kernel_rfl⟩
  | lst b => cases h; exact ⟨_, _, rfl, rfl, fun K => by kernel_rfl⟩
  | dic t b => cases t <;> cases h; exact ⟨_, _, rfl, rfl, fun K => by kernel_rfl⟩
  | ref b => cases h
  | scr b => cases h
end
end Dn


namespace Dn
open PySem L2
theorem callN_len {tbl : Nat → Option FnD} {n f : Nat} {vs : List PV} {st : Store} (h : callN tbl n f vs st ≠ .bad) : ∃ d, tbl f = some d ∧ vs.length = d.np := by
  cases n with
  | zero => exact absurd rfl h
  | succ n =>
    simp only [callN] at h
    cases q : tbl f with
    | none => rw [q] at h; exact absurd rfl h
    | some d =>
      rw [q] at h
      refine ⟨d, rfl, ?_⟩
      simp only [runFn] at h
      by_cases e : vs.length.beq d.np = true
      · exact Nat.eq_of_beq_eq_true e
      · rw [if_neg e] at h; exact absurd rfl h
section
variable {Γ : Pg} {n : Nat} {c fa : Nat → Addr} {G : Fr} {N : List Str} {sc : Scope} {X : Cx} {κ : Cn} {cs : CS}
variable {a b e d : Expr} {da db dd : DE} {pos p : Pos} {es : List Expr} {ds : DEs}
theorem sp_of {f : Nat} {ρ : List Addr} {st : Store} {H : Hp} {pvs : List PV} {vs : List V} {Q : VK} (A : At κ G ρ st H) (r : RVs κ (Fo G.B ρ) ρ H pvs vs) (o : Out κ G ρ H (callN Γ.tbl n f pvs st) (PQ κ G Q)) : spI κ Γ n f vs H Q (EXK κ G) := by
  refine ⟨G.B, ρ, st, pvs, A.wd, r, callN_len (n := n) (st := st) (fun e => ?_), ?_⟩
  · rw [e] at o; exact o
  · unfold OutF
    cases q : callN Γ.tbl n f pvs st with
    | ok v st' =>
      rw [q] at o
      exact fun ρ' H' u e W rv => o ρ' H' e (A.step e W) u rv
    | exc ex st' =>
      rw [q] at o
      exact fun ρ' H' cls dd e W rx => ⟨ex, st', ρ', A.step e W, rx, o⟩
    | bad => rw [q] at o; exact o
def okF (Γ : Pg) (sc : Scope) (f : Nat) (x : Str) : Bool := GlB sc x && nameOk x && decide (Γ.gname f = some x) && (Γ.rt f).isSome
theorem SE.call {f j : Nat} {x : Str} (hx : okF Γ sc f x = true) (hj : j ≤ (Γ.dfl f).length) {dfl : List PV} (hd : (Γ.dfl f).drop j = dfl) (hs : SA Γ N sc (e :: es) ds)
    (hst : ∀ env, starEach (e :: es) env = (false, eval e env) :: starEach es env := by intro _; rfl) (hpl : ∀ env, ((backTo pos (starEach es env)).any (·.1)) = false := by intro _; rfl) : SE Γ N sc (.Call (.Name x p) (e :: es) [] pos) (D.call f ds dfl) := fun n c fa G X g => by
  unfold okF at hx
  simp only [Bool.and_eq_true, decide_eq_true_eq] at hx
  obtain ⟨fd, hfd⟩ := Option.isSome_iff_exists.mp hx.2
  obtain ⟨fdt, ps, F, _, kp, bs⟩ := g.env.fn f fd hfd
  obtain ⟨dv, dvs, hb, hv, hr⟩ := bs j hj
  refine (g_call F g.ng g.r0 (gl_of g hx.1.1.1) (g.env.gn f x hx.1.2) kp hb hv g.ps (hs n c fa G X g) (nameOk_d hx.1.1.2) (hst _) (hpl _)).imp ?_
  rintro σ H Q ⟨ρ, st, σp, A, R, o⟩
  refine tA_bind A R o fun vs st1 ρ1 H1 us e1 A1 R1 rs o1 => ?_
  exact sp_of A1 (rs.append (by rw [← hd]; exact hr _ _ _)) o1
theorem SE.call0 {f j : Nat} {x : Str} (hx : okF Γ sc f x = true) (hj : j ≤ (Γ.dfl f).length) {dfl : List PV} (hd : (Γ.dfl f).drop j = dfl) : SE Γ N sc (.Call (.Name x p) [] [] pos) (D.call f D.nil dfl) := fun n c fa G X g => by
  unfold okF at hx
  simp only [Bool.and_eq_true, decide_eq_true_eq] at hx
  obtain ⟨fd, hfd⟩ := Option.isSome_iff_exists.mp hx.2
  obtain ⟨fdt, ps, F, _, kp, bs⟩ := g.env.fn f fd hfd
  obtain ⟨dv, dvs, hb, hv, hr⟩ := bs j hj
  refine (g_call0 F g.ng g.r0 (gl_of g hx.1.1.1) (g.env.gn f x hx.1.2) kp hb hv g.ps (nameOk_d hx.1.1.2)).imp ?_
  rintro σ H Q ⟨ρ, st, σp, A, R, o⟩
  show spI (cnOf X c) Γ n f ([] ++ dvs) H Q _
  have o : Out (cnOf X c) G ρ H (callN Γ.tbl n f ([] ++ dfl) st) (PQ (cnOf X c) G Q) := o
  exact sp_of (pvs := [] ++ dfl) A (RVs.nil.append (by rw [← hd]; exact hr _ _ _)) o

theorem RFs.look {F : Addr → Prop} {ρ : List Addr} {H : Hp} {f : Str} : ∀ {fs : List (Str × PV)} {gs : List (Str × V)}, RFs κ F ρ H fs gs → (fget f fs = none ∧ gs.lookup f = none) ∨ ∃ p v, fget f fs = some p ∧ gs.lookup f = some v ∧ RV κ F ρ H p v
  | [], gs, h => by
    cases (show gs = [] from h)
    exact .inl ⟨rfl, rfl⟩
  | (k, p) :: t, gs, h => by
    obtain ⟨v, r, rfl, h1, h2⟩ := h
    by_cases e : k = f
    · subst e
      exact .inr ⟨p, v, by simp [fget], by simp [List.lookup], h1⟩
    · have e1 : fget f ((k, p) :: t) = fget f t := by simp [fget, sEq_false.mpr e]
      have e2 : List.lookup f ((k, v) :: r) = List.lookup f r := by
        rw [List.lookup_cons]
        have : (f == k) = false := by simpa using fun z => e z.symm
        rw [this]
      rw [e1, e2]
      exact RFs.look h2
theorem RFs.put {F : Addr → Prop} {ρ : List Addr} {H : Hp} {f : Str} {p : PV} {v : V} (r : RV κ F ρ H p v) : ∀ {fs : List (Str × PV)} {gs : List (Str × V)}, RFs κ F ρ H fs gs → RFs κ F ρ H (fput f p fs) (putF f v gs)
  | [], gs, h => by
    cases (show gs = [] from h)
    exact ⟨v, [], rfl, r, rfl⟩
  | (k, q) :: t, gs, h => by
    obtain ⟨w, r', rfl, h1, h2⟩ := h
    by_cases e : k = f
    · subst e
      simp only [fput, putF, sEq_self, if_true]
      exact ⟨v, r', rfl, r, h2⟩
    · simp only [fput, putF, sEq_false.mpr e, if_neg e]
      exact ⟨w, _, rfl, h1, RFs.put r h2⟩
theorem RFs.length {F : Addr → Prop} {ρ : List Addr} {H : Hp} : ∀ {fs : List (Str × PV)} {gs : List (Str × V)}, RFs κ F ρ H fs gs → fs.length = gs.length
  | [], gs, h => by cases (show gs = [] from h); rfl
  | (k, q) :: t, gs, h => by
    obtain ⟨w, r', rfl, h1, h2⟩ := h
    simp [RFs.length h2]
def okC (Γ : Pg) (sc : Scope) (C f : Nat) (x : Str) : Bool := GlB sc x && nameOk x && decide (Γ.cname C = some x) && decide (Γ.cinit C = f) && (Γ.rt f).isSome
theorem Wd.inst {B : Addr → Prop} {ρ : List Addr} {st : Store} {H : Hp} (W : Wd κ B ρ st H) {x dx : Addr} (C : Nat) (hx : H x = none) (hd : H dx = none) (hn : dx ≠ x) :
    Ext ρ H (ρ ++ [x]) (upd (upd H dx (.own x)) x (.ins (κ.cls C) dx [])) ∧ Wd κ B (ρ ++ [x]) (st ++ [.ins C []]) (upd (upd H dx (.own x)) x (.ins (κ.cls C) dx [])) := by
  have hx' : (upd H dx (.own x)) x = none := by rw [upd_ne (Ne.symm hn)]; exact hx
  exact ⟨(ext_new hd).trans (ext_add hx' _ rfl), (W.new hd).add hx' ⟨dx, [], upd_same, rfl⟩⟩
theorem SE.new {C f j : Nat} {x : Str} (hx : okC Γ sc C f x = true) (hj : j ≤ (Γ.dfl f).length) {dfl : List PV} (hd : (Γ.dfl f).drop j = dfl) (hs : SA Γ N sc (e :: es) ds)
    (hst : ∀ env, starEach (e :: es) env = (false, eval e env) :: starEach es env := by intro _; rfl) (hpl : ∀ env, ((backTo pos (starEach es env)).any (·.1)) = false := by intro _; rfl) : SE Γ N sc (.Call (.Name x p) (e :: es) [] pos) (D.new C f ds dfl) := fun n c fa G X g => by
  unfold okC at hx
  simp only [Bool.and_eq_true, decide_eq_true_eq] at hx
  obtain ⟨fd, hfd⟩ := Option.isSome_iff_exists.mp hx.2
  obtain ⟨fdt, ps, F, _, kp, bs⟩ := g.env.fn f fd hfd
  obtain ⟨dv, dvs, hb, hv, hr⟩ := bs j hj
  obtain ⟨c1, c2, c3⟩ := g.env.cn C x hx.1.1.2
  rw [hx.1.2] at c2
  refine (g_make c2 F g.ng g.room (gl_of g hx.1.1.1.1) c1 hb hv g.ps (hs n c fa G X g) (nameOk_d hx.1.1.1.2) (hst _) (hpl _)).imp ?_
  rintro σ H Q ⟨ρ, st, σp, A, R, o⟩
  refine tA_bind A R o fun vs st1 ρ1 H1 us e1 A1 R1 rs o1 => ?_
  intro y dx hy hdx hne
  obtain ⟨e2, W2⟩ := A1.wd.inst C hy hdx hne
  have A2 := A1.step e2 W2
  have hself : RV (cnOf X c) (Fo G.B (ρ1 ++ [y])) (ρ1 ++ [y]) (upd (upd H1 dx (.own y)) y (.ins (c C) dx [])) (.ref st1.length) (.ref y) := by
    simp only [RV]
    exact ⟨y, rfl, by rw [← A1.wd.len]; simp⟩
  refine sp_of (pvs := .ref st1.length :: (vs ++ dfl)) A2 (RVs.cons hself ((rs.mono e2.mono).append (by rw [← hd]; exact hr _ _ _))) ?_
  have o2 : Out (cnOf X c) G (ρ1 ++ [y]) (upd (upd H1 dx (.own y)) y (.ins (c C) dx [])) ((callN Γ.tbl n f (.ref st1.length :: (vs ++ dfl)) (st1 ++ [.ins C []])).bind fun v st' => match v with | .non => .ok (.ref st1.length) st' | _ => .bad) (PQ (cnOf X c) G Q) := by
    refine Out.weak e2 ?_
    exact o1
  refine o2.bind.mono fun v st3 ρ3 H3 e3 A3 o3 => ?_
  intro u rv
  split at o3
  · refine ⟨rv_non rv, ?_⟩
    exact o3.ret A3 _ (hself.mono e3.mono)
  · exact o3.elim
theorem ins_at {ρ : List Addr} {st : Store} {H : Hp} (A : At κ G ρ st H) {m C : Nat} {fs : List (Str × PV)} {u : V} (h : st[m]? = some (.ins C fs)) (r : RV κ (Fo G.B ρ) ρ H (.ref m) u) : ∃ a dx gs, u = .ref a ∧ ρ[m]? = some a ∧ H a = some (.ins (κ.cls C) dx gs) ∧ RFs κ (Fo G.B ρ) ρ H fs gs := by
  simp only [RV] at r
  obtain ⟨a, rfl, h1⟩ := r
  obtain ⟨dx, gs, h2, h3⟩ := A.wd.ob m _ a h h1
  exact ⟨a, dx, gs, rfl, h1, h2, h3⟩
def okA (Γ : Pg) (C : Nat) (f : Str) : Bool := (Γ.cname C).isSome && (Γ.flds C).contains f
theorem SE.attr {C : Nat} {f f' : Str} (he : f = f') (hx : okA Γ C f = true) (ha : SE Γ N sc a da) (hb : ∀ env, attributeBase a f env (eval a env) = eval a env := by intro _; rfl) : SE Γ N sc (.Attribute a f pos) (D.attr C da f') := fun n c fa G X g => by
  subst he
  unfold okA at hx
  simp only [Bool.and_eq_true] at hx
  obtain ⟨x, ex⟩ := Option.isSome_iff_exists.mp hx.1
  refine (pe_fld (ha n c fa G X g) (hb _)).imp ?_
  rintro σ H Q ⟨ρ, st, σp, A, R, o⟩
  refine tE_bind A R o fun v st1 ρ1 H1 u e1 A1 R1 ru o1 => ?_
  split at o1
  · rename_i m
    split at o1
    · rename_i C' fs em
      split at o1
      · rename_i ec
        have ec := Nat.eq_of_beq_eq_true ec
        subst ec
        obtain ⟨w, ef, k⟩ := o1.of
        obtain ⟨a', dx, gs, rfl, h1, h2, h3⟩ := ins_at A1 em ru
        rcases h3.look with ⟨e1, _⟩ | ⟨q, v, e1, e2, rv⟩
        · rw [ef] at e1; cases e1
        · rw [ef] at e1
          cases e1
          exact ⟨a', _, dx, gs, v, rfl, h2, (g.env.cn _ x ex).2.2, g.env.fl _ x f ex (by simpa using hx.2), e2, k ρ1 H1 Ext.refl A1 v rv⟩
      · exact o1.elim
    · exact o1.elim
  · exact o1.elim
def okM (Γ : Pg) (C f : Nat) (m : Str) : Bool := (Γ.cname C).isSome && (Γ.meths C).contains (m, f) && (Γ.rt f).isSome
theorem meth_read {C f j : Nat} {m : Str} {dfl : List PV} {dvs : List V} {T : TA} (hr : ∀ F ρ H, RVs κ F ρ H dfl dvs) (hT : ∀ σ H Q, tA κ G (callN Γ.tbl n) ds σ H Q → T σ H Q) {σ : St} {H : Hp} {Q : VK}
    (h : tE κ G (callN Γ.tbl n) (D.meth C f m da ds dfl) σ H Q) : tMeth (κ.cls C) m (spI κ Γ n f) dvs (EXK κ G) (tE κ G (callN Γ.tbl n) da) T σ H Q := by
  obtain ⟨ρ, st, σp, A, R, o⟩ := h
  refine tE_bind A R o fun v st1 ρ1 H1 u e1 A1 R1 ru o1 => ?_
  split at o1
  · rename_i k
    split at o1
    · rename_i C' fs em
      split at o1
      · rename_i ec
        rw [Bool.and_eq_true] at ec
        have ec1 := Nat.eq_of_beq_eq_true ec.1
        subst ec1
        obtain ⟨a', dx, gs, rfl, h1, h2, h3⟩ := ins_at A1 em ru
        have hl : gs.lookup m = none := by
          rcases h3.look (f := m) with ⟨_, e2⟩ | ⟨q, v, e1, _⟩
          · exact e2
          · rw [e1] at ec; exact absurd ec.2 (by simp)
        refine ⟨a', dx, gs, rfl, h2, hl, hT _ _ _ (tA_bind A1 R1 o1 fun vs st2 ρ2 H2 us e2 A2 R2 rs o2 => ?_)⟩
        exact sp_of (pvs := .ref k :: (vs ++ dfl)) A2 (RVs.cons (ru.mono e2.mono) (rs.append (hr _ _ _))) o2
      · exact o1.elim
    · exact o1.elim
  · exact o1.elim
theorem SE.meth {C f j : Nat} {m m' : Str} {apos : Pos} (he : m = m') (hx : okM Γ C f m = true) (hj : j ≤ (Γ.dfl f).length) {dfl : List PV} (hd : (Γ.dfl f).drop j = dfl) (ha : SE Γ N sc a da) (hs : SA Γ N sc (e :: es) ds) {pl : PySem.Env → Sem Bool}
    (ht : ∀ env, eval (.Call (.Attribute a m apos) (e :: es) [] pos) env = (do
      let ov ← eval a env
      standAt apos.atName
      let (f, first) ← holding [ov] (getMethod ov m (pl env))
      callWith pos f first (backTo pos (starEach (e :: es) env)) (backToKw pos (keywordEach [] env))) := by intro _; rfl)
    (hst : ∀ env, starEach (e :: es) env = (false, eval e env) :: starEach es env := by intro _; rfl) (hpl : ∀ env, ((backTo pos (starEach es env)).any (·.1)) = false := by intro _; rfl) :
    SE Γ N sc (.Call (.Attribute a m apos) (e :: es) [] pos) (D.meth C f m' da ds dfl) := fun n c fa G X g => by
  subst he
  unfold okM at hx
  simp only [Bool.and_eq_true] at hx
  obtain ⟨x, ex⟩ := Option.isSome_iff_exists.mp hx.1.1
  obtain ⟨fd, hfd⟩ := Option.isSome_iff_exists.mp hx.2
  obtain ⟨fdt, ps, F, _, kp, bs⟩ := g.env.fn f fd hfd
  obtain ⟨dv, dvs, hb, hv, hr⟩ := bs j hj
  subst hd
  exact (g_meth (ha n c fa G X g) (g.env.cn C x ex).2.2 (g.env.me C x m f ex (by simpa using hx.1.2)) F g.ng g.r0 hb hv g.ps (hs n c fa G X g) (hst _) (hpl _) (ht _)).imp fun σ H Q q => meth_read (j := j) hr (fun _ _ _ q => q) q

def tBMG (P : V → Hp → Prop) (r : V → List V → Hp → VK → Prop) (to : TE) (t : TA) : TE := fun σ H Q => to σ H fun x H1 => P x H1 ∧ t σ H1 fun xs H2 => r x xs H2 Q
theorem pe_bmG {o : Expr} {to : TE} {t : TA} {name : Str} {apos cpos : Pos} {T id : String} {r : V → List V → Hp → VK → Prop} {P : V → Hp → Prop} (pa : PlainAttrs T) (slot : Slot T name id) (hty : typeOf (.builtin id) = pure (.type "method_descriptor")) (hm : MtR X id r)
    (hP : ∀ (pins : List (Addr × Obj)) (σ : St) (H : Hp) (s : Shared) (x : V) (v : Value), Inv X pins σ H s → RelV x v → P x H → s.TypeIs v T ∧ ∀ a, v = .ref a → ∃ ob, s.heap.get? a = some ob ∧ ob.dict = none)
    (ho : PE X o to) (ha : PA X (e :: es) t) (hbase : attributeBase o name X.env (eval o X.env) = eval o X.env)
    (hfew : ((backTo cpos (starEach (e :: es) X.env)).all (fun x => !x.1) && (backToKw cpos (keywordEach [] X.env)).all (fun x => x.1.isSome)
      && decide ((e :: es).length + ([] : List Keyword).length + (if ([] : List Keyword).isEmpty then 0 else 1) < 30)) = true)
    (hline : (apos.endLine == cpos.line) = true) (hs : starEach (e :: es) X.env = (false, eval e X.env) :: starEach es X.env) (hplain : (backTo cpos (starEach es X.env)).any (·.1) = false) :
    PE X (.Call (.Attribute o name apos) (e :: es) [] cpos) (tBMG P r to t) := by
  constructor
  intro pn s0 sg H0 Q0 I0 hw
  refine wpAny_Call_method_late hbase hfew hline rfl ?_
  refine thn (ho.run pn s0 sg H0 _ I0 hw) ?_
  rintro u0 sA ⟨x0, HA, IA, rA, tyA, qA⟩
  have both := hP pn sg HA sA x0 u0 IA rA tyA
  refine ⟨T, id, pa, slot, hty, both.1, both.2, ?_⟩
  have run := ha.run cpos pn sA sg HA _ IA qA
  rw [hs] at run ⊢
  have np : ((false, eval e X.env) :: backTo cpos (starEach es X.env)).any (·.1) = false := by
    simpa using hplain
  refine Calls.callWith_builtin np ?_
  refine Calls.evalArgs_plain ?_
  refine thn run ?_
  rintro us sB ⟨vs0, HB, IB, rB, qB⟩
  exact hm pn sB sg HB x0 vs0 u0 us Q0 IB rA rB qB
theorem lst_at {ρ : List Addr} {st : Store} {H : Hp} {v : PV} {u : V} (A : At κ G ρ st H) (r : RV κ (Fo G.B ρ) ρ H v u) (h : D.lstAt st v = true) : ∃ m ps a xs, v = .ref m ∧ st[m]? = some (.lst ps) ∧ u = .ref a ∧ ρ[m]? = some a ∧ H a = some (.lst xs) ∧ RVs κ (Fo G.B ρ) ρ H ps xs := by
  unfold D.lstAt at h
  split at h
  · rename_i m
    split at h
    · rename_i ps em
      simp only [RV] at r
      obtain ⟨a, rfl, h1⟩ := r
      obtain ⟨xs, h2, h3⟩ := A.wd.ob m _ a em h1
      exact ⟨m, ps, a, xs, rfl, em, rfl, h1, h2, h3⟩
    · cases h
  · cases h
theorem put_lst {ρ : List Addr} {st : Store} {H : Hp} {m : Nat} {ps : List PV} {xs : List V} {a : Addr} {zs : List V} (A : At κ G ρ st H) (ha : ρ[m]? = some a) (h : H a = some (.lst zs)) (r : RVs κ (Fo G.B ρ) ρ H ps xs) :
    Ext ρ H ρ (upd H a (.lst xs)) ∧ At κ G ρ (st.set m (.lst ps)) (upd H a (.lst xs)) := by
  have e2 : Ext ρ H ρ (upd H a (.lst xs)) := ext_put A.wd ha (fun ys => by rw [h]; simp) (fun o u => by rw [h]; simp)
  exact ⟨e2, A.step e2 (A.wd.put ha (fun ys => by rw [h]; simp) (fun o u => by rw [h]; simp) ⟨xs, upd_same, r.mono e2.mono⟩)⟩
theorem SE.append {apos : Pos} (ha : SE Γ N sc a da) (hb : SE Γ N sc b db) (hm : MRows a ("append" : Str) apos b [] pos) : SE Γ N sc (.Call (.Attribute a ("append" : Str) apos) [b] [] pos) (D.append da db) := fun n c fa G X g => by
  refine (pe_bm PySem.F.plainAttrs_list PySem.F.slot_list_append PySem.F.type_list_append mt_append (ha n c fa G X g) (pa_cons (hb n c fa G X g) pa_nil (hm.st _)) (hm.base _) (hm.few _) hm.line (hm.st _) (hm.pl _)).imp ?_
  rintro σ H Q ⟨ρ, st, σp, A, R, o⟩
  refine tE_bind A R o fun v st1 ρ1 H1 u e1 A1 R1 ru o1 => ?_
  split at o1
  · rename_i hl
    obtain ⟨m, ps, a', xs, rfl, em, rfl, h1, h2, h3⟩ := lst_at A1 ru hl
    refine ⟨.inl ⟨rfl, _, SqL.of h2⟩, tE_bind A1 R1 o1 fun w st2 ρ2 H2 z e2 A2 R2 rz o2 => ?_⟩
    split at o2
    · rename_i m' em'
      cases em'
      split at o2
      · rename_i qs eq
        split at o2
        · rename_i hlen
          have h1' := e2.get h1
          obtain ⟨ys, h4, h5⟩ := A2.wd.ob m _ a' eq h1'
          obtain ⟨e3, A3⟩ := put_lst (ps := qs ++ [w]) (xs := ys ++ [z]) A2 h1' h4 (h5.append (RVs.cons rz RVs.nil))
          refine ⟨a', ys, z, rfl, rfl, h4, by rw [← h5.length]; exact Nat.lt_of_lt_of_le hlen big, ?_⟩
          exact o2 ρ2 _ e3 A3 .non (by simp only [RV])
        · exact o2.elim
      · exact o2.elim
    · rename_i hne
      exact (hne m rfl).elim
  · exact o1.elim
theorem SE.extend {apos : Pos} (ha : SE Γ N sc a da) (hb : SE Γ N sc b db) (hm : MRows a ("extend" : Str) apos b [] pos) : SE Γ N sc (.Call (.Attribute a ("extend" : Str) apos) [b] [] pos) (D.extend da db) := fun n c fa G X g => by
  refine (pe_bm PySem.F.plainAttrs_list PySem.F.slot_list_extend PySem.F.type_list_extend mt_extend (ha n c fa G X g) (pa_cons (hb n c fa G X g) pa_nil (hm.st _)) (hm.base _) (hm.few _) hm.line (hm.st _) (hm.pl _)).imp ?_
  rintro σ H Q ⟨ρ, st, σp, A, R, o⟩
  refine tE_bind A R o fun v st1 ρ1 H1 u e1 A1 R1 ru o1 => ?_
  split at o1
  · rename_i hl
    obtain ⟨m, ps, a', xs, rfl, em, rfl, h1, h2, h3⟩ := lst_at A1 ru hl
    refine ⟨.inl ⟨rfl, _, SqL.of h2⟩, tE_bind A1 R1 o1 fun w st2 ρ2 H2 z e2 A2 R2 rz o2 => ?_⟩
    split at o2
    · rename_i m' em'
      cases em'
      split at o2
      · rename_i qs ts eq et
        split at o2
        · rename_i hlen
          have h1' := e2.get h1
          obtain ⟨ys, h4, h5⟩ := A2.wd.ob m _ a' eq h1'
          have rd := RR.of A2.wd rz
          rw [et] at rd
          obtain ⟨b', zs, rfl, h6, h7⟩ := rr_lst rd
          obtain ⟨e3, A3⟩ := put_lst (ps := qs ++ ts) (xs := ys ++ zs) A2 h1' h4 (h5.append h7)
          refine ⟨a', b', ys, zs, rfl, rfl, h4, h6, by rw [← h5.length, ← h7.length]; exact Nat.le_trans (Nat.le_of_lt hlen) big, ?_⟩
          exact o2 ρ2 _ e3 A3 .non (by simp only [RV])
        · exact o2.elim
      · exact o2.elim
    · rename_i hne
      exact (hne m rfl).elim
  · exact o1.elim
theorem cut_rvs {F : Addr → Prop} {ρ : List Addr} {H : Hp} {ps : List PV} {xs : List V} (r : RVs κ F ρ H ps xs) (lo hi : Option Int) : RVs κ F ρ H (O.cut ps lo hi) (cutV xs lo hi) := by
  unfold O.cut cutV
  have : ∀ (m dd : Nat) (o : Option Int), O.sIx m dd o = HT.sIx m dd o := fun m dd o => by cases o <;> rfl
  rw [this, this, r.length]
  exact (r.drop _).take _
end
end Dn


namespace Dn
open PySem L2
section
variable {Γ : Pg} {n : Nat} {c fa : Nat → Addr} {G : Fr} {N : List Str} {sc : Scope} {X : Cx} {κ : Cn} {cs : CS}
variable {a b e d : Expr} {da db dd : DE} {pos p : Pos} {es : List Expr} {ds : DEs}

def SO (Γ : Pg) (N : List Str) (sc : Scope) : Option Expr → Option DE → Prop
  | none, none => True
  | some e, some d => SE Γ N sc e d
  | _, _ => False
def tO (κ : Cn) (G : Fr) (cs : CS) (d : Option DE) : TO := fun σ H Q => ∃ ρ st σp, At κ G ρ st H ∧ REnv κ (Fo G.B ρ) ρ H σp σ ∧ ∃ (k : Option Int → Store → Res PV) (P : PV → Store → List Addr → Hp → Prop),
  Out κ G ρ H (D.part cs σp d k st) P ∧ ∀ l st1 ρ1 H1, Ext ρ H ρ1 H1 → At κ G ρ1 st1 H1 → REnv κ (Fo G.B ρ1) ρ1 H1 σp σ → Out κ G ρ1 H1 (k l st1) P → Q l H1
theorem PO_imp {X : Cx} {e : Option Expr} {t t' : TO} (h : L2.PO X e t) (i : ∀ σ H Q, t' σ H Q → t σ H Q) : L2.PO X e t' := ⟨fun pins s σ H Q I q => h.run pins s σ H Q I (i σ H Q q)⟩
theorem SO.po {o : Option Expr} {do_ : Option DE} (h : SO Γ N sc o do_) (g : Good Γ n c fa G N sc X) : L2.PO X o (tO (cnOf X c) G (callN Γ.tbl n) do_) := by
  cases o with
  | none =>
    cases do_ with
    | none =>
      refine PO_imp po_none ?_
      rintro σ H Q ⟨ρ, st, σp, A, R, k, P, o, q⟩
      exact q none st ρ H Ext.refl A R o
    | some d => exact h.elim
  | some e =>
    cases do_ with
    | none => exact h.elim
    | some d =>
      have h : SE Γ N sc e d := h
      refine PO_imp (po_some (h n c fa G X g)) ?_
      rintro σ H Q ⟨ρ, st, σp, A, R, k, P, o, q⟩
      refine tE_bind A R o fun v st1 ρ1 H1 u e1 A1 R1 ru o1 => ?_
      split at o1
      · exact ⟨_, rv_int ru, q _ st1 ρ1 H1 e1 A1 R1 o1⟩
      · exact o1.elim
theorem ints_rvs {F : Addr → Prop} {ρ : List Addr} {H : Hp} : ∀ ns : List Int, RVs κ F ρ H (ns.map .int) (ns.map V.int)
  | [] => RVs.nil
  | x :: xs => RVs.cons (by simp only [RV]) (ints_rvs xs)
theorem SE.slice {lo hi : Option Expr} {dl dh : Option DE} {p2 : Pos} (ha : SE Γ N sc a da) (hl : SO Γ N sc lo dl) (hh : SO Γ N sc hi dh) : SE Γ N sc (.Subscript a (.Slice lo hi none p2) pos) (D.slice da dl dh) := fun n c fa G X g => by
  refine (pe_slice (SlR.or sl_tupF sl_list) (ha n c fa G X g) (hl.po g) (hh.po g)).imp ?_
  rintro σ H Q ⟨ρ, st, σp, A, R, o⟩
  refine tE_bind A R o fun v st1 ρ1 H1 u e1 A1 R1 ru o1 => ?_
  refine ⟨ρ1, st1, σp, A1, R1, _, _, o1, fun l st2 ρ2 H2 e2 A2 R2 o2 => ?_⟩
  refine ⟨ρ2, st2, σp, A2, R2, _, _, o2, fun h st3 ρ3 H3 e3 A3 R3 o3 => ?_⟩
  obtain ⟨w, ef, k⟩ := o3.of
  have rd := RR.of A3.wd ((ru.mono e2.mono).mono e3.mono)
  unfold O.slice at ef
  split at ef
  · rename_i xs eq
    cases ef
    rw [eq] at rd
    obtain ⟨a', vs, rfl, h1, r1⟩ := rr_tupD rd
    have rc := cut_rvs r1 l h
    refine .inl ⟨a', vs, rfl, h1.sqT, fun ⟨z1, z2⟩ => ?_, fun _ q ob hq od => newT A3 (fun ρ' H' u e A r => k ρ' H' e A u r) rc hq od⟩
    refine k ρ3 H3 Ext.refl A3 _ ?_
    simp only [RV]
    refine ⟨a', vs, rfl, h1, ?_⟩
    have ec : O.cut xs l h = xs := by
      unfold O.cut
      have : ∀ (m dd : Nat) (o : Option Int), O.sIx m dd o = HT.sIx m dd o := fun m dd o => by cases o <;> rfl
      rw [this, this, r1.length, z1, z2]
      simp [← r1.length]
    rw [ec]
    exact r1
  · rename_i xs eq
    cases ef
    rw [eq] at rd
    obtain ⟨a', vs, rfl, h1, r1⟩ := rr_lst rd
    exact .inr ⟨a', vs, rfl, SqL.of h1, fun q hq => newL A3 (fun ρ' H' u e A r => k ρ' H' e A u r) (cut_rvs r1 l h) hq⟩
  · rename_i xs eq
    cases ef
    rw [eq] at rd
    obtain ⟨a', rfl, h1⟩ := rr_scr rd
    have r1 : RVs (cnOf X c) (Fo G.B ρ3) ρ3 H3 (xs.map .int) (xs.map V.int) := ints_rvs xs
    exact .inr ⟨a', _, rfl, h1, fun q hq => newL A3 (fun ρ' H' u e A r => k ρ' H' e A u r) (cut_rvs r1 l h) hq⟩
  · cases ef


structure Yld (κ : Cn) (B : Addr → Prop) (J : It) (xs : List PV) (src : Option Nat) (ρ0 : List Addr) (H0 : Hp) : Prop where
  go : ∀ (B' : Addr → Prop) (i : Nat) ρ st H, (∀ a, H0 a ≠ none → B' a → B a) → Ext ρ0 H0 ρ H → Wd κ B' ρ st H → D.stands src xs st = true → i < xs.length →
    J.go i H ∧ ∀ x H', J.yld i H x H' → Ext ρ H ρ H' ∧ Wd κ B' ρ st H' ∧ ∃ p, xs[i]? = some p ∧ RV κ (Fo B' ρ) ρ H' p x
  stop : ∀ (B' : Addr → Prop) (i : Nat) ρ st H, (∀ a, H0 a ≠ none → B' a → B a) → Ext ρ0 H0 ρ H → Wd κ B' ρ st H → D.stands src xs st = true → xs.length ≤ i → J.stop i H
theorem Ext.mono' {B B' : Addr → Prop} {ρ ρ' : List Addr} {H H' : Hp} (e : Ext ρ H ρ' H') (hB : ∀ a, H a ≠ none → B' a → B a) : Mono κ (Fo B ρ) ρ H (Fo B' ρ') ρ' H' where
  tup := fun a xs h => sqD_mono e.frz h
  keep := fun a o h n t => e.keep a o h (e.out (fun z => n (.inr z)) (by rw [h]; simp)) t
  out := fun a h n z => by
    rcases z with z | z
    · exact n (.inl (hB a h z))
    · exact e.out (fun q => n (.inr q)) h z
  get := fun n a h => e.get h
def tI (κ : Cn) (G : Fr) (cs : CS) (d : DI) : TI := fun σ H R => ∃ ρ st σp, At κ G ρ st H ∧ REnv κ (Fo G.B ρ) ρ H σp σ ∧ Out κ G ρ H (d cs σp st) fun p st' ρ' H' => ∀ J, Yld κ G.B J p.1 p.2 ρ' H' → R J H'
def SI (Γ : Pg) (N : List Str) (sc : Scope) (tg e : Expr) (d : DI) : Prop := ∀ (n : Nat) (c fa : Nat → Addr) (G : Fr) (X : Cx), Good Γ n c fa G N sc X → PI X tg e (tI (cnOf X c) G (callN Γ.tbl n) d)
theorem PI_imp {X : Cx} {tg e : Expr} {t t' : TI} (h : PI X tg e t) (i : ∀ σ H R, t' σ H R → t σ H R) : PI X tg e t' := ⟨fun pins s σ H R I q => h.run pins s σ H R I (i σ H R q)⟩
def iSeq (K : PySem.W.Frag) (tl : TE) : TI := fun σ H R => tl σ H fun x H1 => ∃ a, x = .ref a ∧ (((∃ xs, SqT K H1 a xs) ∧ R (Itt K a) H1) ∨ ((∃ xs, SqL K H1 a xs) ∧ R (Itl K a) H1))
theorem pi_seq {tg l : Expr} {tl : TE} (hl : PE X l tl) : PI X tg l (iSeq X.K tl) := by
  constructor
  intro pn s0 sg H0 R0 I0 hw
  refine thn (hl.run pn s0 sg H0 _ I0 hw) ?_
  rintro u0 sA ⟨x0, HA, IA, rA, q⟩
  obtain ⟨l0, rfl, q⟩ := q
  cases rA
  have grow : Inv X pn sg HA sA → ∀ (ob : Obj), Inv X pn sg HA { sA with heap := sA.heap.push ob, toks := sA.toks } := fun J ob => J.kept fun _ _ z => Heap.get?_push_of_some _ z
  have fresh : ∀ b ∈ [sA.heap.objs.size], FpOk X pn HA b := fun b hb => by
    rw [List.mem_singleton.mp hb]
    exact IA.fpOk (Nat.le_refl _) (IA.hok.fresh (Nat.le_refl _))
  rcases q with ⟨⟨xs, hx⟩, q⟩ | ⟨⟨xs, hx⟩, q⟩
  · obtain ⟨its, _, tp, _⟩ := IA.tuple hx
    refine wpAny_pyIter_tuple (items := its.toArray) tp ?_
    exact ⟨_, [sA.heap.objs.size], _, _, HA, rfl, grow IA _, turn_tuple l0 _, ⟨_, Heap.get?_push_size _ rfl, rfl, rfl⟩, fresh, q⟩
  · obtain ⟨its, _, tp, _⟩ := IA.list hx
    refine wpAny_pyIter_list tp.isList ?_
    exact ⟨_, [sA.heap.objs.size], _, _, HA, rfl, grow IA _, turn_list l0 _, ⟨_, Heap.get?_push_size _ rfl, rfl, rfl⟩, fresh, q⟩
theorem sq_none {K : PySem.W.Frag} {H : Hp} {a : Addr} {xs : List V} (h : SqL K (fun _ => none) a xs) : SqL K H a xs := by
  rcases h with (h | ⟨_, h⟩) | h
  · cases h
  · cases h
  · exact .inr h
theorem yld_tup {B : Addr → Prop} {ρ0 : List Addr} {H0 : Hp} {a : Addr} {xs : List V} {ps : List PV} (h : SqT κ.K H0 a xs) (r : RVs κ (Fo B ρ0) ρ0 H0 ps xs) : Yld κ B (Itt κ.K a) ps none ρ0 H0 where
  go := fun B' i ρ st H hB e A _ hi => by
    have h1 := sqT_mono e.tup e.frz h
    have r1 := r.mono (e.mono' hB)
    obtain ⟨y, ey, ry⟩ := r1.get (i := i) (x := ps[i]) (by simp [hi])
    refine ⟨⟨xs, y, h1, ey⟩, fun x H' ⟨e1, hx⟩ => ?_⟩
    subst e1
    have := hx xs h1
    rw [ey] at this
    cases this
    exact ⟨Ext.refl, A, _, by simp [hi], ry⟩
  stop := fun B' i ρ st H hB e A _ hi => ⟨xs, sqT_mono e.tup e.frz h, by rw [← r.length]; exact hi⟩
theorem yld_lst {B : Addr → Prop} {ρ0 : List Addr} {H0 : Hp} {a : Addr} {xs : List V} {ps : List PV} (h : ∀ ρ H, Ext ρ0 H0 ρ H → SqL κ.K H a xs) (r : RVs κ (Fo B ρ0) ρ0 H0 ps xs) : Yld κ B (Itl κ.K a) ps none ρ0 H0 where
  go := fun B' i ρ st H hB e A _ hi => by
    have h1 := h ρ H e
    have r1 := r.mono (e.mono' hB)
    obtain ⟨y, ey, ry⟩ := r1.get (i := i) (x := ps[i]) (by simp [hi])
    refine ⟨⟨xs, y, h1, ey⟩, fun x H' ⟨e1, hx⟩ => ?_⟩
    subst e1
    have := hx xs h1
    rw [ey] at this
    cases this
    exact ⟨Ext.refl, A, _, by simp [hi], ry⟩
  stop := fun B' i ρ st H hB e A _ hi => ⟨xs, h ρ H e, by rw [← r.length]; exact hi⟩
theorem stands_some {m : Nat} {ps : List PV} {st : Store} (h : D.stands (some m) ps st = true) : st[m]? = some (.lst ps) := by
  unfold D.stands at h
  simp only at h
  split at h
  · rename_i ys e
    rw [sameL_eq h] at e
    exact e
  · cases h
theorem yld_ref {B : Addr → Prop} {ρ0 : List Addr} {H0 : Hp} {a : Addr} {m : Nat} {ps : List PV} (hm : ρ0[m]? = some a) : Yld κ B (Itl κ.K a) ps (some m) ρ0 H0 where
  go := fun B' i ρ st H hB e A hs hi => by
    obtain ⟨xs, h1, r1⟩ := A.ob m _ a (stands_some hs) (e.get hm)
    obtain ⟨y, ey, ry⟩ := r1.get (i := i) (x := ps[i]) (by simp [hi])
    refine ⟨⟨xs, y, SqL.of h1, ey⟩, fun x H' ⟨e1, hx⟩ => ?_⟩
    subst e1
    have := hx xs (SqL.of h1)
    rw [ey] at this
    cases this
    exact ⟨Ext.refl, A, _, by simp [hi], ry⟩
  stop := fun B' i ρ st H hB e A hs hi => by
    obtain ⟨xs, h1, r1⟩ := A.ob m _ a (stands_some hs) (e.get hm)
    exact ⟨xs, SqL.of h1, by rw [← r1.length]; exact hi⟩
theorem SI.walk {tg : Expr} (ha : SE Γ N sc a da) : SI Γ N sc tg a (D.walk da) := fun n c fa G X g => by
  refine PI_imp (pi_seq (ha n c fa G X g)) ?_
  rintro σ H R ⟨ρ, st, σp, A, Rn, o⟩
  refine tE_bind A Rn o fun v st1 ρ1 H1 u e1 A1 R1 ru o1 => ?_
  split at o1
  · rename_i xs
    simp only [RV] at ru
    obtain ⟨a', vs, rfl, h1, r1⟩ := ru
    exact ⟨a', rfl, .inl ⟨⟨vs, h1.sqT⟩, o1.ret A1 _ (yld_tup h1.sqT r1)⟩⟩
  · rename_i xs
    simp only [RV] at ru
    obtain ⟨a', vs, rfl, h1, nf, r1⟩ := ru
    refine ⟨a', rfl, .inr ⟨⟨vs, SqL.of h1⟩, o1.ret A1 _ (yld_lst (xs := vs) (fun ρ H e => SqL.of ?_) r1)⟩⟩
    exact e.keep _ _ h1 (e.out (fun z => nf (.inr z)) (by rw [h1]; simp)) (fun _ z => HO.noConfusion z)
  · rename_i ns
    simp only [RV] at ru
    obtain ⟨a', rfl, h1⟩ := ru
    have r1 : RVs (cnOf X c) (Fo G.B ρ1) ρ1 H1 (ns.map .int) (ns.map V.int) := ints_rvs ns
    have hk : ∀ ρ H, Ext ρ1 H1 ρ H → SqL X.K H a' (ns.map V.int) := fun ρ H e => by
      rcases h1 with ⟨h1, nf⟩ | h1
      · exact .inl (rd_mono (κ := cnOf X c) (e.mono (B := G.B)) nf (fun _ z => HO.noConfusion z) h1)
      · exact sq_none h1
    exact ⟨a', rfl, .inr ⟨⟨_, hk ρ1 H1 Ext.refl⟩, o1.ret A1 _ (yld_lst hk r1)⟩⟩
  · rename_i m
    split at o1
    · rename_i xs em
      simp only [RV] at ru
      obtain ⟨a', rfl, h1⟩ := ru
      obtain ⟨vs, h2, _⟩ := A1.wd.ob m _ a' em h1
      exact ⟨a', rfl, .inr ⟨⟨vs, SqL.of h2⟩, o1.ret A1 _ (yld_ref h1)⟩⟩
    · exact o1.elim
  · exact o1.elim
theorem upP_length : ∀ (lo : Int) (n : Nat), (D.upP lo n).length = n
  | _, 0 => rfl
  | lo, n + 1 => by simp [D.upP, upP_length]
theorem upP_get : ∀ (n : Nat) (lo : Int) (i : Nat), i < n → (D.upP lo n)[i]? = some (.int (lo + i))
  | 0, _, _, h => by omega
  | n + 1, lo, 0, _ => by simp [D.upP]
  | n + 1, lo, i + 1, h => by
    simp only [D.upP, List.getElem?_cons_succ]
    rw [upP_get n (lo + 1) i (by omega)]
    congr 2
    omega
theorem yld_rng {B : Addr → Prop} {ρ0 : List Addr} {H0 : Hp} {lo : Int} {m : Nat} : Yld κ B (Itr lo m) (D.upP lo m) none ρ0 H0 where
  go := fun B' i ρ st H hB e A _ hi => by
    rw [upP_length] at hi
    refine ⟨hi, fun x H' ⟨e1, hx⟩ => ?_⟩
    subst e1
    subst hx
    exact ⟨Ext.refl, A, _, upP_get m lo i hi, by simp only [RV]⟩
  stop := fun B' i ρ st H hB e A _ hi => by rw [upP_length] at hi; exact hi
theorem SI.range1 {tg : Expr} (hx : okB Γ sc ("range" : Str) = true) (ha : SE Γ N sc a da) (hst : ∀ env, starEach [a] env = [(false, eval a env)] := by intro _; rfl) : SI Γ N sc tg (.Call (.Name ("range" : Str) p) [a] [] pos) (D.range1 da) := fun n c fa G X g => by
  obtain ⟨g1, g2, g3, g4⟩ := okB_gl g hx
  refine PI_imp (pi_range1 g1 g2 (pa_cons (ha n c fa G X g) pa_nil (hst _)) (hst _)) ?_
  rintro σ H R ⟨ρ, st, σp, A, Rn, o⟩
  refine tE_bind A Rn o fun v st1 ρ1 H1 u e1 A1 R1 ru o1 => ?_
  split at o1
  · rename_i j
    split at o1
    · rename_i hj
      simp only [Bool.and_eq_true, decide_eq_true_eq] at hj
      have e2 : (2 : Int) ^ 62 = 4611686018427387904 := by decide
      refine ⟨j, by rw [rv_int ru], by rw [e2]; omega, by rw [e2]; omega, o1.ret A1 _ yld_rng⟩
    · exact o1.elim
  · exact o1.elim
theorem zipP_get : ∀ (xs ys : List PV) (i : Nat) (x y : PV), xs[i]? = some x → ys[i]? = some y → (D.zipP xs ys)[i]? = some (.tup [x, y])
  | [], _, i, x, y, h, _ => by simp at h
  | _ :: _, [], i, x, y, _, h => by simp at h
  | a :: xs, b :: ys, 0, x, y, h, g => by simp at h g; subst h; subst g; rfl
  | a :: xs, b :: ys, i + 1, x, y, h, g => by
    simp only [D.zipP, List.getElem?_cons_succ] at h g ⊢
    exact zipP_get xs ys i x y h g
theorem zipP_length : ∀ (xs ys : List PV), (D.zipP xs ys).length = min xs.length ys.length
  | [], ys => by cases ys <;> simp [D.zipP]
  | _ :: _, [] => by simp [D.zipP]
  | a :: xs, b :: ys => by simp only [D.zipP, List.length_cons, zipP_length xs ys]; omega
end
end Dn


namespace Dn
open PySem L2
section
variable {Γ : Pg} {n : Nat} {c fa : Nat → Addr} {G : Fr} {N : List Str} {sc : Scope} {X : Cx} {κ : Cn} {cs : CS}
variable {a b e d : Expr} {da db dd : DE} {pos p : Pos} {es : List Expr} {ds : DEs}
def tG (κ : Cn) (G : Fr) (cs : CS) (t : DTg) : TG := fun v σ H Q => ∃ ρ st σp p, At κ G ρ st H ∧ REnv κ (Fo G.B ρ) ρ H σp σ ∧ RV κ (Fo G.B ρ) ρ H p v ∧ Out κ G ρ H (t cs p σp st) fun σp' _ ρ' H' => ∀ σ', REnv κ (Fo G.B ρ') ρ' H' σp' σ' → Q σ' H'
def tGs (κ : Cn) (G : Fr) (cs : CS) (ts : List DTg) : TGs := fun vs σ H Q => ∃ ρ st σp ps, At κ G ρ st H ∧ REnv κ (Fo G.B ρ) ρ H σp σ ∧ RVs κ (Fo G.B ρ) ρ H ps vs ∧ Out κ G ρ H (D.tts ts cs ps σp st) fun σp' _ ρ' H' => ∀ σ', REnv κ (Fo G.B ρ') ρ' H' σp' σ' → Q σ' H'
def SG (Γ : Pg) (N : List Str) (sc : Scope) (tg : Expr) (t : DTg) : Prop := ∀ (n : Nat) (c fa : Nat → Addr) (G : Fr) (X : Cx), Good Γ n c fa G N sc X → (∀ x, X.fn x = true) → PG X tg (tG (cnOf X c) G (callN Γ.tbl n) t)
def SGs (Γ : Pg) (N : List Str) (sc : Scope) (tgs : List Expr) (ts : List DTg) : Prop := ∀ (n : Nat) (c fa : Nat → Addr) (G : Fr) (X : Cx), Good Γ n c fa G N sc X → (∀ x, X.fn x = true) → PGs X tgs (tGs (cnOf X c) G (callN Γ.tbl n) ts)
theorem PG_imp {X : Cx} {tg : Expr} {t t' : TG} (h : PG X tg t) (i : ∀ v σ H Q, t' v σ H Q → t v σ H Q) : PG X tg t' := ⟨fun pins s σ H v u Q I r q => h.run pins s σ H v u Q I r (i v σ H Q q)⟩
theorem PGs_imp {X : Cx} {tg : List Expr} {t t' : TGs} (h : PGs X tg t) (i : ∀ v σ H Q, t' v σ H Q → t v σ H Q) : PGs X tg t' := ⟨fun pins s σ H v u Q I r q => h.run pins s σ H v u Q I r (i v σ H Q q)⟩
theorem PG_or {X : Cx} {tg : Expr} {t t' : TG} (h : PG X tg t) (h' : PG X tg t') : PG X tg (fun v σ H Q => t v σ H Q ∨ t' v σ H Q) := ⟨fun pins s σ H v u Q I r q => q.elim (fun q => h.run pins s σ H v u Q I r q) fun q => h'.run pins s σ H v u Q I r q⟩
theorem PSet_or {X : Cx} {t t' : TSet} (h : PSet X t) (h' : PSet X t') : PSet X (fun o i v H Q => t o i v H Q ∨ t' o i v H Q) := fun pins s σ H o i v ov iv u Q I r1 r2 r3 q => q.elim (fun q => h pins s σ H o i v ov iv u Q I r1 r2 r3 q) fun q => h' pins s σ H o i v ov iv u Q I r1 r2 r3 q
def LocB (sc : Scope) (x : Str) : Bool := match sc.names.lookup x with
  | some .local => true
  | some .cell => true
  | _ => false
theorem loc_of {x : Str} (h : LocB sc x = true) : L2.Loc sc x := by
  unfold LocB at h
  unfold L2.Loc
  cases q : sc.names.lookup x with
  | none => rw [q] at h; cases h
  | some k => cases k <;> simp_all
def okT (N : List Str) (sc : Scope) (i : Nat) (x : Str) : Bool := decide (N[i]? = some x) && LocB sc x
theorem SG.tn {i : Nat} {x : Str} (h : okT N sc i x = true) : SG Γ N sc (.Name x pos) (D.tn i) := fun n c fa G X g hfn => by
  unfold okT at h
  simp only [Bool.and_eq_true, decide_eq_true_eq] at h
  have hl : L2.Loc X.env.scope x := by rw [g.hsc]; exact loc_of h.2
  refine PG_imp (pg_name (i := i) g.nd (by rw [g.hN]; exact h.1) hl (.inl (hfn x))) ?_
  rintro v σ H Q ⟨ρ, st, σp, p, A, R, r, o⟩
  exact o.ret A _ (R.set r)
theorem SGs.nil : SGs Γ N sc [] [] := fun n c fa G X g hfn => by
  refine PGs_imp pgs_nil ?_
  rintro vs σ H Q ⟨ρ, st, σp, ps, A, R, r, o⟩
  cases ps with
  | nil =>
    simp only [RVs] at r
    have o : Out (cnOf X c) G ρ H (.ok σp st) _ := o
    exact ⟨r, o.ret A σ R⟩
  | cons q qs => exact (show False from o).elim
theorem SGs.cons {t : DTg} {ts : List DTg} (h : SG Γ N sc e t) (hs : SGs Γ N sc es ts) (ha : ∀ env, (assignEach (e :: es) env).map (·.2) = assign e env :: (assignEach es env).map (·.2) := by intro _; rfl) : SGs Γ N sc (e :: es) (t :: ts) := fun n c fa G X g hfn => by
  refine PGs_imp (pgs_cons (h n c fa G X g hfn) (hs n c fa G X g hfn) (ha _)) ?_
  rintro vs σ H Q ⟨ρ, st, σp, ps, A, R, r, o⟩
  cases ps with
  | nil => exact (show False from o).elim
  | cons q qs =>
    have o : Out (cnOf X c) G ρ H ((t (callN Γ.tbl n) q σp st).bind fun σ st => D.tts ts (callN Γ.tbl n) qs σ st) _ := o
    simp only [RVs] at r
    obtain ⟨v, vr, rfl, r1, r2⟩ := r
    refine ⟨v, vr, rfl, ρ, st, σp, q, A, R, r1, o.bind.mono fun σp1 st1 ρ1 H1 e1 A1 o1 σ1 R1 => ?_⟩
    exact ⟨ρ1, st1, σp1, qs, A1, R1, r2.mono e1.mono, o1⟩
theorem SG.tt {kk m : Nat} {ts : List DTg} (h : SGs Γ N sc es ts) (hm : ts.length = m) (hn : ∀ env, (assignEach es env).length = m := by intro _; rfl) (hst : ∀ env, (assignEach es env).findIdx? (·.1) = none := by intro _; rfl) : SG Γ N sc (.Tuple es kk pos) (D.tt ts) := fun n c fa G X g hfn => by
  refine PG_imp (PG_or (pg_tup g.calm (h n c fa G X g hfn) (hn _) (hst _)) (pg_lst g.calm (h n c fa G X g hfn) (hn _) (hst _))) ?_
  rintro v σ H Q ⟨ρ, st, σp, p, A, R, r, o⟩
  have rd := RR.of A.wd r
  unfold D.tt at o
  split at o
  · rename_i xs eq
    split at o
    · rename_i hl
      have hl := Nat.eq_of_beq_eq_true hl
      rw [eq] at rd
      obtain ⟨a', vs, rfl, h1, r1⟩ := rr_tup rd
      exact .inl ⟨a', vs, rfl, h1, by rw [← r1.length, hl, hm], ρ, st, σp, xs, A, R, r1, o⟩
    · exact o.elim
  · rename_i xs eq
    split at o
    · rename_i hl
      have hl := Nat.eq_of_beq_eq_true hl
      rw [eq] at rd
      obtain ⟨a', vs, rfl, h1, r1⟩ := rr_lst rd
      exact .inr ⟨a', vs, rfl, SqL.of h1, by rw [← r1.length, hl, hm], ρ, st, σp, xs, A, R, r1, o⟩
    · exact o.elim
  · exact o.elim

def gAttr (K : PySem.W.Frag) (to : TE) (f : Str) : TG := fun v σ H Q => to σ H fun x H1 => ∃ a C dx fs, x = .ref a ∧ H1 a = some (.ins C dx fs) ∧ Cls K C ∧ NoAttr K C f ∧ fs.length < 1000 ∧ Q σ (upd H1 a (.ins C dx (putF f v fs)))
theorem pg_attr {o : Expr} {to : TE} {f : Str} (ho : PE X o to) : PG X (.Attribute o f pos) (gAttr X.K to f) := by
  constructor
  intro pn s0 sg H0 v0 u0 Q0 I0 rv hw
  show wpAny _ _ (do
    let ov ← holding [u0] (eval o X.env)
    standAt pos.atName
    holding [u0, ov] (setAttr ov f u0)
    release [u0, ov] []) _ _ s0
  refine wpAny_bind (wpAny_holding (thn (ho.run pn s0 sg H0 _ I0 hw) ?_))
  rintro ov sA ⟨x, HA, IA, rA, a0, C, dx, fs, rfl, ha, cl, na, hl, q⟩
  cases rA
  refine wpAny_bind (wpAny_standAt (wpAny_bind (wpAny_holding ?_)))
  exact setattr_ok IA ha cl na hl rv fun sB IB => wpAny_release ⟨sg, _, IB, q⟩
theorem SG.tattr {C : Nat} {f f' : Str} (he : f = f') (hx : okA Γ C f = true) (ha : SE Γ N sc a da) : SG Γ N sc (.Attribute a f pos) (D.tattr C da f') := fun n c fa G X g hfn => by
  subst he
  unfold okA at hx
  simp only [Bool.and_eq_true] at hx
  obtain ⟨x, ex⟩ := Option.isSome_iff_exists.mp hx.1
  refine PG_imp (pg_attr (f := f) (ha n c fa G X g)) ?_
  rintro v σ H Q ⟨ρ, st, σp, p, A, R, r, o⟩
  refine tE_bind A R o fun w st1 ρ1 H1 u e1 A1 R1 ru o1 => ?_
  split at o1
  · rename_i m
    split at o1
    · rename_i C' fs em
      split at o1
      · rename_i hc
        simp only [Bool.and_eq_true, decide_eq_true_eq] at hc
        have ec := Nat.eq_of_beq_eq_true hc.1
        subst ec
        obtain ⟨a', dx, gs, rfl, h1, h2, h3⟩ := ins_at A1 em ru
        refine ⟨a', _, dx, gs, rfl, h2, (g.env.cn _ x ex).2.2, g.env.fl _ x f ex (by simpa using hx.2), by rw [← h3.length]; exact hc.2, ?_⟩
        have e2 : Ext ρ1 H1 ρ1 (upd H1 a' (.ins (c C') dx (putF f v gs))) := ext_put A1.wd h1 (fun ys => by rw [h2]; simp) (fun o u => by rw [h2]; simp)
        have A2 : At (cnOf X c) G ρ1 (st1.set m (.ins C' (fput f p fs))) (upd H1 a' (.ins (c C') dx (putF f v gs))) :=
          A1.step e2 (A1.wd.put h1 (fun ys => by rw [h2]; simp) (fun o u => by rw [h2]; simp) ⟨dx, _, upd_same, (RFs.put ((r.mono e1.mono)) h3).mono e2.mono⟩)
        exact o1 ρ1 _ e2 A2 σ (R1.mono e2.mono)
      · exact o1.elim
    · exact o1.elim
  · exact o1.elim

def rSetDk (X : Cx) (c : Nat → Addr) : TSet := fun o i v H Q => ∃ F ρ k kvs es a b nk, keyT true k = true ∧ toNK k = some nk ∧ i = .ref b ∧ RV (cnOf X c) F ρ H k i ∧ o = .ref a ∧ H a = some (dTO (cnOf X c) a es) ∧ RTs (cnOf X c) F ρ H kvs es ∧ es.length < sizeLine ∧ Q (upd H a (dTO (cnOf X c) a (putT es nk b v)))
theorem set_dk (hu : X.A.units + 64 < cLine) : PSet X (rSetDk X c) := by
  intro pins s σ H o i v ov iv u Q I ro ri rv h
  obtain ⟨F, ρ, k, kvs, es, a, b, nk, hk, enk, rfl, rk, rfl, ha, rt, hl, q⟩ := h
  cases ro
  obtain ⟨nk', b', e', d8, eb, rfl, is⟩ := key_is I hk rk ri
  cases eb
  rw [enk] at e'
  cases e'
  obtain ⟨ys, hd, p, sys, _, deep⟩ := dT_of I (.inl ha) rt
  have hlen : ys.length = es.length := (Paired.length p).symm
  refine wpAny_setItem_heap (room8 hu _ _) is hd (fun h' hd' hs => ?_) (by rw [hlen]; exact Nat.le_of_lt hl)
  have pe := put_of (k := nk) (a := b) rv p
  obtain ⟨o', ee, ep, g1, g2, g3, g4, g5, g6⟩ := hd'
  refine ⟨_, I.write (t' := _) (x := a) (e := a) (o := dTO (cnOf X c) a (putT es nk b v)) (by rw [ha]; exact trivial) (.inl rfl) (fun b u hb e => (hs.2 b hb).trans e) ⟨o', g1⟩ ?_, q⟩
  refine ⟨⟨sys, Nat.le_trans putT_len (by omega), putT_deep deep d8, _, pe, o', ee, ep, g1, g2, g3, g4, g6⟩, ⟨o', g1⟩, fun h1 h2 hh1 k => ?_⟩
  obtain ⟨q1, q2, q3, zs, q4, o1, e1, p1, w1, w2, w3, w4, w5⟩ := hh1
  exact ⟨q1, q2, q3, zs, q4, o1, e1, p1, k _ w1, w2, w3, w4, w5⟩
theorem SG.tsub (ha : SE Γ N sc a da) (hb : SE Γ N sc b db)
    (hh : ∀ env v, assign (.Subscript a b pos) env v = (do
      let ov ← holding [v] (eval a env)
      let iv ← holding [v, ov] (eval b env)
      standAt pos
      holding [v, ov, iv] (setItem ov iv v)
      release [v, ov, iv] []) := by intro _ _; rfl) : SG Γ N sc (.Subscript a b pos) (D.tsub da db) := fun n c fa G X g hfn => by
  refine PG_imp (pg_sub (ha n c fa G X g) (hb n c fa G X g) (PSet_or set_list (PSet_or (set_dict g.u1) (set_dk (c := c) g.u64))) (hh _)) ?_
  rintro v σ H Q ⟨ρ, st, σp, p, A, R, r, o⟩
  refine tE_bind A R o fun w st1 ρ1 H1 u e1 A1 R1 ru o1 => ?_
  refine tE_bind A1 R1 o1 fun y st2 ρ2 H2 z e2 A2 R2 rz o2 => ?_
  have ru := ru.mono (e2.mono (κ := cnOf X c) (B := G.B))
  have r2 := (r.mono (e1.mono (κ := cnOf X c) (B := G.B))).mono (e2.mono (κ := cnOf X c) (B := G.B))
  split at o2
  · rename_i st' es'
    unfold D.store at es'
    split at es'
    · rename_i m _
      simp only [RV] at ru
      obtain ⟨a', rfl, h1⟩ := ru
      split at es'
      · rename_i xs em
        split at es'
        · rename_i i
          obtain ⟨j, ej, rfl⟩ := Option.map_eq_some_iff.mp es'
          obtain ⟨vs, h2, h3⟩ := A2.wd.ob m _ a' em h1
          obtain ⟨e3, A3⟩ := put_lst (ps := xs.set j p) (xs := vs.set j v) A2 h1 h2 (h3.set j r2)
          refine .inl ⟨a', vs, i, j, rfl, rv_int rz, h2, by rw [← h3.length]; exact ej, ?_⟩
          exact o2 ρ2 _ e3 A3 σ (R2.mono e3.mono)
        · cases es'
      · rename_i t kvs em
        split at es'
        · rename_i hk
          cases es'
          simp only [Bool.and_eq_true, decide_eq_true_eq] at hk
          cases t with
          | false =>
            obtain ⟨es, h2, h3⟩ := A2.wd.ob m _ a' em h1
            obtain ⟨kk, ek⟩ := keyT_false hk.1
            have ez := rv_key ek rz
            subst ez
            have e3 : Ext ρ2 H2 ρ2 (upd H2 a' (.dK (putK es kk v))) := ext_put A2.wd h1 (fun ys => by rw [h2]; simp) (fun o u => by rw [h2]; simp)
            have A3 : At (cnOf X c) G ρ2 (st2.set m (.dic false (put y p kvs))) (upd H2 a' (.dK (putK es kk v))) :=
              A2.step e3 (A2.wd.put h1 (fun ys => by rw [h2]; simp) (fun o u => by rw [h2]; simp) ⟨_, upd_same, (h3.put ek r2).mono e3.mono⟩)
            exact .inr (.inl ⟨a', _, rfl, DPut.k h2 (by rw [← h3.length]; exact Nat.lt_of_lt_of_le hk.2 big), o2 ρ2 _ e3 A3 σ (R2.mono e3.mono)⟩)
          | true =>
            obtain ⟨es, h2, h3⟩ := A2.wd.ob m _ a' em h1
            cases y <;> simp only [keyT, if_true, Bool.false_eq_true, false_and] at hk
            rename_i ks
            obtain ⟨nk, ek, d8⟩ := keyOk_nk 8 _ hk.1
            have rz' := rz
            simp only [RV] at rz'
            obtain ⟨b', vs, rfl, h4, h5⟩ := rz'
            have e3 : Ext ρ2 H2 ρ2 (upd H2 a' (dTO (cnOf X c) a' (putT es nk b' v))) := ext_put A2.wd h1 (fun ys => by rw [h2]; simp) (fun o u => by rw [h2]; simp)
            have A3 : At (cnOf X c) G ρ2 (st2.set m (.dic true (put (.tup ks) p kvs))) (upd H2 a' (dTO (cnOf X c) a' (putT es nk b' v))) :=
              A2.step e3 (A2.wd.put h1 (fun ys => by rw [h2]; simp) (fun o u => by rw [h2]; simp) ⟨_, upd_same, (h3.put ek rz r2).mono e3.mono⟩)
            exact .inr (.inr ⟨_, ρ2, .tup ks, kvs, es, a', b', nk, by simp [keyT, hk.1], ek, rfl, rz, rfl, h2, h3, by rw [← h3.length]; exact Nat.lt_of_lt_of_le hk.2 big, o2 ρ2 _ e3 A3 σ (R2.mono e3.mono)⟩)
        · cases es'
      · cases es'
    · cases es'
  · exact o2.elim
end
end Dn


namespace Dn
open PySem L2
section
variable {Γ : Pg} {n : Nat} {c fa : Nat → Addr} {G : Fr} {N : List Str} {sc scope : Scope} {X : Cx} {κ : Cn} {cs : CS}
variable {a b e d tg iter elt : Expr} {da db dd de : DE} {pos p : Pos} {es : List Expr} {ds : DEs}
def relSc (scope sc : Scope) : Scope := { scope with names := scope.names.map fun (n, k) => if (k == .free && sc.kind == .function && sc.names.lookup n == some .cell) then (n, .cell) else (n, k) }
theorem dot_rel {scope sc : Scope} : dotS (relSc scope sc) = dotS scope := by
  unfold dotS relSc
  rw [List.any_map]
  congr 1
  funext p
  obtain ⟨n, k⟩ := p
  show sEq (if _ then (n, _) else (n, k)).1 _ = sEq n _
  split <;> rfl
def Fr.blk (G : Fr) (D : Addr) : Fr := ⟨fun a => G.B a ∨ a = D, G.ρ0, G.H0, fun _ _ => False⟩
theorem exk_never {κ : Cn} {G : Fr} (h : ∀ e st, ¬ G.Ex e st) : EXK κ G = E0 := by
  funext cls d H
  apply propext
  exact ⟨fun ⟨e, st, ρ, _, _, z⟩ => h e st z, fun z => z.elim⟩
theorem Good.blk (g : Good Γ n c fa G N sc X) {own : List (Str × Nat)} (ok : blkD N sc scope own = true) (D : Addr) (s : Shared) (H : Hp) (C : Addr) (cl : List (Str × Addr)) (fp : List Addr) :
    Good Γ n c fa (G.blk D) N (relSc scope sc) (X.blk s H scope (compEnvC scope cl C X.env) fp) where
  hN := g.hN
  hsc := by
    rw [← g.hsc]
    rfl
  nd := g.nd
  calm := g.calm
  room := g.room
  ng := g.ng
  envs := g.envs
  ps := by
    rw [exk_never fun e st z => z]
    exact passL
  kind := (blkOk_by (blkD_c ok)).kind
  lamc := g.lamc
  tp := fun _ h => by
    have h2 := ((Bool.and_eq_true ..).mp ok).2
    rw [dot_rel, h2] at h
    cases h
def STs (Γ : Pg) (N : List Str) (sc : Scope) (ts : List Expr) (ds : List DE) : Prop := match ts, ds with
  | [], [] => True
  | [t], [d] => ST Γ N sc t d
  | _, _ => False
def tTs (κ : Cn) (G : Fr) (cs : CS) (ds : List DE) : TT := fun σ H Q => ∃ ρ st σp, At κ G ρ st H ∧ REnv κ (Fo G.B ρ) ρ H σp σ ∧ Out κ G ρ H (D.tests ds cs σp st) fun b _ _ H' => Q b H'
theorem PTs_imp {X : Cx} {ts : List Expr} {t t' : TT} (h : PTs X ts t) (i : ∀ σ H Q, t' σ H Q → t σ H Q) : PTs X ts t' := ⟨fun pins s σ H Q I q => h.run pins s σ H Q I (i σ H Q q)⟩
theorem STs.pts {ts : List Expr} {ds : List DE} (h : STs Γ N sc ts ds) (g : Good Γ n c fa G N sc X) : PTs X ts (tTs (cnOf X c) G (callN Γ.tbl n) ds) := by
  unfold STs at h
  split at h
  · refine PTs_imp pts_nil ?_
    rintro σ H Q ⟨ρ, st, σp, A, R, o⟩
    exact o.ret A
  · refine PTs_imp (pts_one (h n c fa G X g)) ?_
    rintro σ H Q ⟨ρ, st, σp, A, R, o⟩
    refine tT_bind A R o fun v st1 ρ1 H1 e1 A1 R1 o1 => ?_
    split at o1
    · exact ⟨_, rfl, o1.ret A1⟩
    · exact o1.elim
  · exact h.elim
def del (H : Hp) (D : Addr) : Hp := fun a => if a = D then none else H a
theorem del_ne {H : Hp} {D a : Addr} (h : a ≠ D) : del H D a = H a := if_neg h
theorem del_at {H : Hp} {D : Addr} : del H D D = none := if_pos rfl
theorem upd_del {H : Hp} {D : Addr} {o : HO} (h : H D = some o) : upd (del H D) D o = H := by
  funext a
  unfold upd del
  by_cases e : a = D
  · rw [if_pos e, e, h]
  · rw [if_neg e, if_neg e]
section
variable {ρ ρ1 : List Addr} {st st1 : Store} {H H1 : Hp} {D : Addr} {o : HO} {B : Addr → Prop}
theorem mono_lay (h : H1 D = none) : Mono κ (Fo B ρ) ρ H1 (Fo (fun a => B a ∨ a = D) ρ) ρ (upd H1 D o) where
  tup := fun a xs h' => sqD_mono (fun a o u q => by rw [upd_ne (ne_of_none q h)]; exact q) h'
  keep := fun a o q _ _ => by rw [upd_ne (ne_of_none q h)]; exact q
  out := fun a q n z => by
    rcases z with (z | z) | z
    · exact n (.inl z)
    · exact q (z ▸ h)
    · exact n (.inr z)
  get := fun n a h => h
theorem wd_lay (W : Wd κ B ρ st H1) (h : H1 D = none) : Wd κ (fun a => B a ∨ a = D) ρ st (upd H1 D o) where
  len := W.len
  nd := W.nd
  dom := fun a ha => by
    rcases ha with ha | ha
    · rw [upd_ne fun (z : a = D) => W.dom a ha (by rw [z]; exact h)]; exact W.dom a ha
    · rw [ha, upd_same]; simp
  sep := fun a ha z => by
    rcases z with z | z
    · exact W.sep a ha z
    · exact W.has ha (z ▸ h)
  ob := fun n q a h1 h2 => (W.ob n q a h1 h2).mono (mono_lay h) (upd_ne fun z => W.has (List.mem_of_getElem? h2) (z ▸ h))
  tabs := W.tabs.new h
theorem mono_turn {o' : HO} (h : H D = some o') (nt : ∀ xs, o' ≠ .tup xs) (nf : ∀ q u, o' ≠ .frz q u) : Mono κ (Fo (fun a => B a ∨ a = D) ρ) ρ H (Fo (fun a => B a ∨ a = D) ρ) ρ (upd H D o) where
  tup := fun a xs h' => sqD_mono (fun a o u q => by rw [upd_ne fun (z : a = D) => nf o u (by rw [z, h] at q; exact Option.some.inj q)]; exact q) h'
  keep := fun a o q n _ => by rw [upd_ne fun (z : a = D) => n (.inl (.inr z))]; exact q
  out := fun a q n => n
  get := fun n a h => h
theorem wd_turn {o' : HO} (W : Wd κ (fun a => B a ∨ a = D) ρ st H) (h : H D = some o') (nt : ∀ xs, o' ≠ .tup xs) (nf : ∀ q u, o' ≠ .frz q u) (nb : NoTb o') : Wd κ (fun a => B a ∨ a = D) ρ st (upd H D o) where
  len := W.len
  nd := W.nd
  dom := fun a ha => by
    by_cases e : a = D
    · rw [e, upd_same]; simp
    · rw [upd_ne e]; exact W.dom a ha
  sep := W.sep
  ob := fun n q a h1 h2 => (W.ob n q a h1 h2).mono (mono_turn h nt nf) (upd_ne fun z => W.sep a (List.mem_of_getElem? h2) (.inr z))
  tabs := W.tabs.turn h nb fun b hb => upd_ne hb
theorem ext_turn {ρ0 : List Addr} {H0 : Hp} (e : Ext ρ0 H0 ρ H) (h0 : H0 D = none) : Ext ρ0 H0 ρ (upd H D o) where
  nu := e.nu
  dom := fun a h => by
    by_cases z : a = D
    · rw [z, upd_same]; simp
    · rw [upd_ne z]; exact e.dom a h
  keep := fun a u h n t => by rw [upd_ne (ne_of_none h h0)]; exact e.keep a u h n t
  tup := fun a u h => by rw [upd_ne (ne_of_none h h0)]; exact e.tup a u h
  frz := fun a u v h => by rw [upd_ne (ne_of_none h h0)]; exact e.frz a u v h
theorem ext_del {ρ0 : List Addr} {H0 : Hp} (e : Ext ρ0 H0 ρ H) (h0 : H0 D = none) : Ext ρ0 H0 ρ (del H D) where
  nu := e.nu
  dom := fun a h => by rw [del_ne fun (z : a = D) => h (by rw [z]; exact h0)]; exact e.dom a h
  keep := fun a u h n t => by rw [del_ne (ne_of_none h h0)]; exact e.keep a u h n t
  tup := fun a u h => by rw [del_ne (ne_of_none h h0)]; exact e.tup a u h
  frz := fun a u v h => by rw [del_ne (ne_of_none h h0)]; exact e.frz a u v h
theorem mono_del {o' : HO} (h : H D = some o') (nt : ∀ xs, o' ≠ .tup xs) (nf : ∀ q u, o' ≠ .frz q u) : Mono κ (Fo (fun a => B a ∨ a = D) ρ) ρ H (Fo B ρ) ρ (del H D) where
  tup := fun a xs h' => sqD_mono (fun a o u q => by rw [del_ne fun (z : a = D) => nf o u (by rw [z, h] at q; exact Option.some.inj q)]; exact q) h'
  keep := fun a o q n _ => by rw [del_ne fun (z : a = D) => n (.inl (.inr z))]; exact q
  out := fun a q n z => n (z.elim (fun z => .inl (.inl z)) .inr)
  get := fun n a h => h
theorem wd_del {o' : HO} (W : Wd κ (fun a => B a ∨ a = D) ρ st H) (hB : ∀ a, B a → a ≠ D) (h : H D = some o') (nt : ∀ xs, o' ≠ .tup xs) (nf : ∀ q u, o' ≠ .frz q u) (nb : NoTb o') : Wd κ B ρ st (del H D) where
  len := W.len
  nd := W.nd
  dom := fun a ha => by rw [del_ne (hB a ha)]; exact W.dom a (.inl ha)
  sep := fun a ha z => W.sep a ha (.inl z)
  ob := fun n q a h1 h2 => (W.ob n q a h1 h2).mono (mono_del h nt nf) (del_ne fun z => W.sep a (List.mem_of_getElem? h2) (.inr z))
  tabs := W.tabs.turn h nb fun b hb => del_ne hb
end
theorem wipe_env {F : Addr → Prop} {ρ : List Addr} {H : Hp} {σp : Env} {σ : St} (R : REnv κ F ρ H σp σ) : ∀ own : List Nat, REnv κ F ρ H (D.wipe σp own) (L2.wipe σ own)
  | [] => R
  | v :: vs => by
    have ih := wipe_env R vs
    refine ⟨by simp [D.wipe, L2.wipe, ih.1], fun i p e => ?_⟩
    simp only [D.wipe] at e
    by_cases h : i = v
    · subst h
      have hl := (List.getElem?_eq_some_iff.mp e).1
      rw [List.length_set] at hl
      rw [List.getElem?_set_self hl] at e
      cases e
    · rw [List.getElem?_set_ne (Ne.symm h)] at e
      obtain ⟨w, e1, r⟩ := ih.2 i p e
      exact ⟨w, by simp only [L2.wipe]; rw [List.getElem?_set_ne (Ne.symm h)]; exact e1, r⟩
def Keeps (own : List Nat) (tg : Expr) (t : DTg) (Γ : Pg) (N : List Str) (sc : Scope) : Prop := ∀ (n : Nat) (c fa : Nat → Addr) (G : Fr) (X : Cx), Good Γ n c fa G N sc X → ∃ gg : TG, PG X tg gg ∧
  ∀ v σ H Q, tG (cnOf X c) G (callN Γ.tbl n) t v σ H Q → gg v σ H fun σ2 H2 => L2.wipe σ2 own = L2.wipe σ own ∧ Q σ2 H2
def Keep2 (own : List Nat) (tgs : List Expr) (ts : List DTg) (Γ : Pg) (N : List Str) (sc : Scope) : Prop := ∀ (n : Nat) (c fa : Nat → Addr) (G : Fr) (X : Cx), Good Γ n c fa G N sc X → ∃ gg : TGs, PGs X tgs gg ∧
  ∀ v σ H Q, tGs (cnOf X c) G (callN Γ.tbl n) ts v σ H Q → gg v σ H fun σ2 H2 => L2.wipe σ2 own = L2.wipe σ own ∧ Q σ2 H2
theorem wipe_set {σ : St} {i : Nat} {v : Option V} : ∀ {own : List Nat}, i ∈ own → L2.wipe (σ.set i v) own = L2.wipe σ own
  | [], h => by cases h
  | w :: vs, h => by
    simp only [L2.wipe]
    by_cases e : i = w
    · subst e
      by_cases h2 : i ∈ vs
      · rw [wipe_set h2]
      · have : ∀ (us : List Nat), i ∉ us → L2.wipe (σ.set i v) us = (L2.wipe σ us).set i v := by
          intro us hu
          induction us with
          | nil => rfl
          | cons u us ih =>
            simp only [L2.wipe]
            have hne : i ≠ u := fun z => hu (z ▸ List.mem_cons_self)
            rw [ih fun z => hu (List.mem_cons_of_mem _ z), List.set_comm _ _ hne]
        rw [this vs h2, List.set_set]
    · rw [wipe_set ((List.mem_cons.mp h).resolve_left e)]
def okO (N : List Str) (sc : Scope) (i : Nat) (x : Str) : Bool := decide (N[i]? = some x) && decide (sc.names.lookup x = some .local)
theorem Keeps.tn {own : List Nat} {i : Nat} {x : Str} (h : okO N sc i x = true) (hi : i ∈ own) : Keeps own (.Name x pos) (D.tn i) Γ N sc := fun n c fa G X g => by
  unfold okO at h
  simp only [Bool.and_eq_true, decide_eq_true_eq] at h
  have hl : X.env.scope.names.lookup x = some .local := by rw [g.hsc]; exact h.2
  refine ⟨_, pg_name (i := i) g.nd (by rw [g.hN]; exact h.1) (.inl hl) (.inr hl), ?_⟩
  rintro v σ H Q ⟨ρ, st, σp, p, A, R, r, o⟩
  exact ⟨wipe_set hi, o.ret A _ (R.set r)⟩
theorem Keep2.nil {own : List Nat} : Keep2 own [] [] Γ N sc := fun n c fa G X g => by
  refine ⟨_, pgs_nil, ?_⟩
  rintro vs σ H Q ⟨ρ, st, σp, ps, A, R, r, o⟩
  cases ps with
  | nil =>
    simp only [RVs] at r
    have o : Out (cnOf X c) G ρ H (.ok σp st) _ := o
    exact ⟨r, rfl, o.ret A σ R⟩
  | cons q qs => exact (show False from o).elim
theorem gs_mono {X : Cx} {tgs : List Expr} {gg : TGs} (h : PGs X tgs gg) : PGs X tgs (fun v σ H Q => ∃ Q', gg v σ H Q' ∧ ∀ σ H, Q' σ H → Q σ H) := ⟨fun pins s σ H v u Q I r ⟨Q', q, i⟩ => thn (h.run pins s σ H v u Q' I r q) fun _ _ ⟨σ', H', I', q'⟩ => ⟨σ', H', I', i σ' H' q'⟩⟩
theorem g_mono {X : Cx} {tg : Expr} {gg : TG} (h : PG X tg gg) : PG X tg (fun v σ H Q => ∃ Q', gg v σ H Q' ∧ ∀ σ H, Q' σ H → Q σ H) := ⟨fun pins s σ H v u Q I r ⟨Q', q, i⟩ => thn (h.run pins s σ H v u Q' I r q) fun _ _ ⟨σ', H', I', q'⟩ => ⟨σ', H', I', i σ' H' q'⟩⟩
theorem Keep2.cons {own : List Nat} {t : DTg} {ts : List DTg} (h : Keeps own e t Γ N sc) (hs : Keep2 own es ts Γ N sc) (ha : ∀ env, (assignEach (e :: es) env).map (·.2) = assign e env :: (assignEach es env).map (·.2) := by intro _; rfl) : Keep2 own (e :: es) (t :: ts) Γ N sc := fun n c fa G X g => by
  obtain ⟨g1, p1, k1⟩ := h n c fa G X g
  obtain ⟨g2, p2, k2⟩ := hs n c fa G X g
  refine ⟨_, pgs_cons (g_mono p1) (gs_mono p2) (ha _), ?_⟩
  rintro vs σ H Q ⟨ρ, st, σp, ps, A, R, r, o⟩
  cases ps with
  | nil => exact (show False from o).elim
  | cons q qs =>
    have o : Out (cnOf X c) G ρ H ((t (callN Γ.tbl n) q σp st).bind fun σ st => D.tts ts (callN Γ.tbl n) qs σ st) _ := o
    simp only [RVs] at r
    obtain ⟨v, vr, rfl, r1, r2⟩ := r
    refine ⟨v, vr, rfl, _, k1 v σ H (fun σ1 H1 => tGs (cnOf X c) G (callN Γ.tbl n) ts vr σ1 H1 Q) ⟨ρ, st, σp, q, A, R, r1, o.bind.mono fun σp1 st1 ρ1 H1 e1 A1 o1 σ1 R1 => ?_⟩, fun σ1 H1 q => ?_⟩
    · exact ⟨ρ1, st1, σp1, qs, A1, R1, r2.mono e1.mono, o1⟩
    · exact ⟨_, k2 vr σ1 H1 Q q.2, fun σ2 H2 q2 => ⟨q2.1.trans q.1, q2.2⟩⟩
theorem Keeps.tt {own : List Nat} {kk m : Nat} {ts : List DTg} (h : Keep2 own es ts Γ N sc) (hm : ts.length = m) (hn : ∀ env, (assignEach es env).length = m := by intro _; rfl) (hst : ∀ env, (assignEach es env).findIdx? (·.1) = none := by intro _; rfl) : Keeps own (.Tuple es kk pos) (D.tt ts) Γ N sc := fun n c fa G X g => by
  obtain ⟨g2, p2, k2⟩ := h n c fa G X g
  refine ⟨_, PG_or (pg_tup g.calm p2 (hn _) (hst _)) (pg_lst g.calm p2 (hn _) (hst _)), ?_⟩
  rintro v σ H Q ⟨ρ, st, σp, p, A, R, r, o⟩
  have rd := RR.of A.wd r
  unfold D.tt at o
  split at o
  · rename_i xs eq
    split at o
    · rename_i hl
      have hl := Nat.eq_of_beq_eq_true hl
      rw [eq] at rd
      obtain ⟨a', vs, rfl, h1, r1⟩ := rr_tup rd
      exact .inl ⟨a', vs, rfl, h1, by rw [← r1.length, hl, hm], k2 vs σ H Q ⟨ρ, st, σp, xs, A, R, r1, o⟩⟩
    · exact o.elim
  · rename_i xs eq
    split at o
    · rename_i hl
      have hl := Nat.eq_of_beq_eq_true hl
      rw [eq] at rd
      obtain ⟨a', vs, rfl, h1, r1⟩ := rr_lst rd
      exact .inr ⟨a', vs, rfl, SqL.of h1, by rw [← r1.length, hl, hm], k2 vs σ H Q ⟨ρ, st, σp, xs, A, R, r1, o⟩⟩
    · exact o.elim
  · exact o.elim
end
end Dn


namespace Dn
open PySem L2
section
variable {Γ : Pg} {n : Nat} {c fa : Nat → Addr} {G : Fr} {N : List Str} {sc scope : Scope} {X : Cx} {κ : Cn} {cs : CS}
variable {a b e d tg iter elt : Expr} {da db dd de : DE} {pos p : Pos} {es : List Expr} {ds : DEs}
def FinR {α : Type} (P : α → Store → Prop) : Res α → Prop
  | .ok a st => P a st
  | _ => False
theorem fin_bind {α β : Type} {r : Res α} {f : α → Store → Res β} {P : β → Store → Prop} {D : Addr} {ρ : List Addr} {H : Hp} (h : FinR P (r.bind f)) : Out κ (G.blk D) ρ H r fun a st _ _ => FinR P (f a st) := by
  cases r with
  | ok a st => exact fun _ _ _ _ => h
  | exc e st => exact h
  | bad => exact h
theorem wipe2 {σ : St} : ∀ own : List Nat, L2.wipe (L2.wipe σ own) own = L2.wipe σ own
  | [] => rfl
  | v :: vs => by
    show L2.wipe ((L2.wipe σ vs).set v none) (v :: vs) = _
    rw [wipe_set List.mem_cons_self]
    show (L2.wipe (L2.wipe σ vs) vs).set v none = _
    rw [wipe2 vs]
    rfl
def gW (own : List Nat) (κ : Cn) (G : Fr) (cs : CS) (t : DTg) : TG := fun v σ H Q => ∃ Q' : St → Hp → Prop, tG κ G cs t v σ H Q' ∧ ∀ σ2 H2, L2.wipe σ2 own = L2.wipe σ own → Q' σ2 H2 → Q σ2 H2
theorem Keeps.pg {own : List Nat} {t : DTg} (h : Keeps own tg t Γ N sc) (g : Good Γ n c fa G N sc X) : PG X tg (gW own (cnOf X c) G (callN Γ.tbl n) t) := by
  obtain ⟨gg, h1, h2⟩ := h n c fa G X g
  exact PG_imp (g_mono h1) fun v σ H Q ⟨Q', q, i⟩ => ⟨_, h2 v σ H Q' q, fun σ2 H2 z => i σ2 H2 z.1 z.2⟩
theorem PE_ex {X : Cx} {e : Expr} {ι : Type} {t : ι → TE} (h : ∀ i, PE X e (t i)) : PE X e (fun σ H Q => ∃ i, t i σ H Q) := ⟨fun pins s σ H Q I ⟨i, q⟩ => (h i).run pins s σ H Q I q⟩
theorem PTs_ex {X : Cx} {e : List Expr} {ι : Type} {t : ι → TT} (h : ∀ i, PTs X e (t i)) : PTs X e (fun σ H Q => ∃ i, t i σ H Q) := ⟨fun pins s σ H Q I ⟨i, q⟩ => (h i).run pins s σ H Q I q⟩
theorem PG_ex {X : Cx} {e : Expr} {ι : Type} {t : ι → TG} (h : ∀ i, PG X e (t i)) : PG X e (fun v σ H Q => ∃ i, t i v σ H Q) := ⟨fun pins s σ H v u Q I r ⟨i, q⟩ => (h i).run pins s σ H v u Q I r q⟩
theorem blk_at {ρ : List Addr} {st : Store} {H : Hp} {D : Addr} (A : At κ (G.blk D) ρ st H) : D ∉ ρ := fun z => A.wd.sep D z (.inr rfl)
theorem lc_imp {X : Cx} {ix : List Nat} {cs : CS} {ts : List DE} {it : DI} {tgd : DTg} : ∀ σ H Q, tF (cnOf X c) G cs (Dn.D.lc ix it tgd ts de) σ H Q →
    tLc (tI (cnOf X c) G cs it) (fun v σ H Q => ∃ D, gW ix (cnOf X c) (G.blk D) cs tgd v σ H Q) (fun σ H Q => ∃ D, tTs (cnOf X c) (G.blk D) cs ts σ H Q) (fun σ H Q => ∃ D, tE (cnOf X c) (G.blk D) cs de σ H Q) ix σ H Q := by
  rintro σ H Q ⟨ρ, st, σp, A, R, o⟩
  refine ⟨ρ, st, σp, A, R, o.bind.mono fun pr st1 ρ1 H1 e1 A1 o1 J hJ D hD => ?_⟩
  obtain ⟨xs, src⟩ := pr
  have hB : ∀ a, H1 a ≠ none → (G.blk D).B a → G.B a := fun a h z => z.elim id fun z => absurd (by rw [z]; exact hD) h
  have h0D : G.H0 D = none := A1.ext.free hD
  split at o1
  · rename_i hlen
    have hlen : xs.length ≤ 1000000 := hlen
    -- what is to come behind the turns
    let P : List PV → List PV → Store → Prop := fun acc ys st' => ∀ ρ' H' us, Ext ρ1 H1 ρ' H' → At (cnOf X c) (G.blk D) ρ' st' H' → RVs (cnOf X c) (Fo (G.blk D).B ρ') ρ' H' (acc ++ ys) us → H' D = some (.lst us) → Q (.ref D) H'
    let lp := Dn.D.lcL tgd ts de (cs) (Dn.D.wipe σp ix) src xs
    let W : Nat → Hp → Prop := fun i H => ∃ ρ st acc vs, Ext ρ1 H1 ρ H ∧ At (cnOf X c) (G.blk D) ρ st H ∧ REnv (cnOf X c) (Fo (G.blk D).B ρ) ρ H (Dn.D.wipe σp ix) (L2.wipe σ ix) ∧ H D = some (.lst vs) ∧ RVs (cnOf X c) (Fo (G.blk D).B ρ) ρ H acc vs ∧ acc.length ≤ i ∧
      FinR (P acc) (lp (xs.drop i) st)
    refine ⟨fun i m H => m = xs.length - i ∧ i ≤ xs.length ∧ W i H, ⟨xs.length, by simp, Nat.zero_le _, ρ1, st1, [], [], ext_new hD, ⟨wd_lay A1.wd hD, A1.ext.trans (ext_new hD)⟩, ((wipe_env R ix).mono e1.mono).mono (mono_lay hD), upd_same, RVs.nil, Nat.le_refl _, ?_⟩, ?_⟩
    · show FinR (P []) (lp xs st1)
      have o1 : Out (cnOf X c) G ρ1 H1 ((lp xs st1).calm.bind fun ys st => Res.ok (PV.lst ys) st) (fun v st' ρ' H' => ∃ ps, v = PV.lst ps ∧ ∀ us p, RVs (cnOf X c) (Fo G.B ρ') ρ' H' ps us → H' p = none → Q (V.ref p) (upd H' p (HO.lst us))) := o1
      cases q : lp xs st1 with
      | ok ys st' =>
        rw [q] at o1
        intro ρ' H' us e' A' r' hv
        have nt : ∀ xs, (HO.lst us) ≠ .tup xs := fun _ z => nomatch z
        have nf : ∀ q u, (HO.lst us) ≠ .frz q u := fun _ _ z => nomatch z
        have e2 := ext_del e' hD
        obtain ⟨ps, e3, k⟩ := o1 ρ' (del H' D) e2 ⟨wd_del A'.wd (fun a ha z => A1.wd.dom a ha (by rw [z]; exact hD)) hv nt nf notb_lst, A1.ext.trans e2⟩
        cases e3
        have := k us D (r'.mono (mono_del hv nt nf)) del_at
        rw [upd_del hv] at this
        exact this
      | exc e st' => rw [q] at o1; exact o1
      | bad => rw [q] at o1; exact o1
    · rintro i m H2 ⟨rfl, hi, ρ2, st2, acc, vs, e2, A2, R2, hv, ra, hl, fin⟩
      have hi : i ≤ xs.length := hi
      by_cases hlt : i < xs.length
      · refine .inr ?_
        have hdrop : xs.drop i = xs[i] :: xs.drop (i + 1) := List.drop_eq_getElem_cons hlt
        rw [hdrop] at fin
        have fin : FinR (P acc) (if Dn.D.stands src xs st2 = true then (tgd (cs) xs[i] (Dn.D.wipe σp ix) st2).bind fun σ1 st => (Dn.D.tests ts (cs) σ1 st).bind fun b st =>
            if b = true then (de (cs) σ1 st).bind fun y st => (lp (xs.drop (i + 1)) st).bind fun ys st => .ok (y :: ys) st else lp (xs.drop (i + 1)) st else .bad) := fin
        split at fin
        · rename_i hs
          obtain ⟨go, yl⟩ := hJ.go (G.blk D).B i ρ2 st2 H2 hB e2 A2.wd hs hlt
          refine ⟨go, W (i + 1), fun H' w => ⟨xs.length - (i + 1), by omega, rfl, hlt, w⟩, fun x H3 hy => ?_⟩
          obtain ⟨e3, W3, pv, ep, rp⟩ := yl x H3 hy
          rw [List.getElem?_eq_getElem hlt] at ep
          cases ep
          have A3 := A2.step e3 W3
          refine ⟨D, _, ⟨ρ2, st2, Dn.D.wipe σp ix, xs[i], A3, R2.mono e3.mono, rp, (fin_bind fin).mono fun σ4 st4 ρ4 H4 e4 A4 f4 σ4' R4 => ?_⟩, fun σ5 H5 hw q => ⟨hw.trans (wipe2 ix), q⟩⟩
          refine ⟨D, ρ4, st4, σ4, A4, R4, (fin_bind f4).mono fun bb st5 ρ5 H5 e5 A5 f5 => ?_⟩
          have eAll := (e3.trans e4).trans e5
          -- the turn's end
          have turn : ∀ {ρ6 H6 st6}, Ext ρ5 H5 ρ6 H6 → At (cnOf X c) (G.blk D) ρ6 st6 H6 → H6 D = some (.lst vs) := fun {ρ6 H6 st6} e6 A6 => (eAll.trans e6).keep D _ hv (blk_at A6) fun _ z => HO.noConfusion z
          cases bb
          rotate_left
          · show ∃ D, tE _ _ _ _ _ _ _
            have f5 : FinR (P acc) ((de (cs) σ4 st5).bind fun y st => (lp (xs.drop (i + 1)) st).bind fun ys st => .ok (y :: ys) st) := f5
            refine ⟨D, ρ5, st5, σ4, A5, R4.mono e5.mono, (fin_bind f5).mono fun y st6 ρ6 H6 e6 A6 f6 u ru => ?_⟩
            have hv6 := turn e6 A6
            have nt : ∀ xs, (HO.lst vs) ≠ .tup xs := fun _ z => nomatch z
            have nf : ∀ q u, (HO.lst vs) ≠ .frz q u := fun _ _ z => nomatch z
            have eA := eAll.trans e6
            refine ⟨vs, hv6, by rw [← ra.length]; exact Nat.lt_of_lt_of_le (by omega) (Nat.le_trans hlen big), ρ6, st6, acc ++ [y], vs ++ [u], ext_turn (e2.trans eA) hD, ⟨wd_turn A6.wd hv6 nt nf notb_lst, ext_turn A6.ext h0D⟩, (R2.mono eA.mono).mono (mono_turn hv6 nt nf), upd_same, ?_, by simp; omega, ?_⟩
            · exact ((ra.mono eA.mono).append (RVs.cons ru RVs.nil)).mono (mono_turn hv6 nt nf)
            · show FinR (P (acc ++ [y])) (lp (xs.drop (i + 1)) st6)
              cases q : lp (xs.drop (i + 1)) st6 with
              | ok ys st7 =>
                rw [q] at f6
                intro ρ' H' us e' A' r' hv'
                have f6 : P acc (y :: ys) st7 := f6
                exact f6 ρ' H' us e' A' (by simpa using r') hv'
              | exc e st7 => rw [q] at f6; exact f6
              | bad => rw [q] at f6; exact f6
          · have f5 : FinR (P acc) (lp (xs.drop (i + 1)) st5) := f5
            exact ⟨ρ5, st5, acc, vs, e2.trans eAll, A5, R2.mono eAll.mono, turn Ext.refl A5, ra.mono eAll.mono, by omega, f5⟩
        · exact fin.elim
      · refine .inl ?_
        have hdrop : xs.drop i = [] := List.drop_eq_nil_of_le (Nat.le_of_not_lt hlt)
        rw [hdrop] at fin
        have fin : FinR (P acc) (if Dn.D.stands src xs st2 = true then .ok [] st2 else .bad) := fin
        split at fin
        · rename_i hs
          exact ⟨hJ.stop (G.blk D).B i ρ2 st2 H2 hB e2 A2.wd hs (Nat.le_of_not_lt hlt), fin ρ2 H2 vs e2 A2 (by simpa using ra) hv⟩
        · exact fin.elim
  · exact o1.elim
theorem SEF.lc {own : List (Str × Nat)} {ix : List Nat} {ifs : List Expr} {it : DI} {tgd : DTg} {ts : List DE} (ok : blkD N sc scope own = true) (hix : own.map (·.2) = ix) (hi : SI Γ N sc tg iter it) (ht : Keeps ix tg tgd Γ N (relSc scope sc))
    (hts : STs Γ N (relSc scope sc) ifs ts) (he : SE Γ N (relSc scope sc) elt de) (hfs : ∀ env x, foldedSetIterable iter env x = pure x := by intro _ _; rfl) :
    SEF Γ N sc (.ListComp elt [⟨tg, iter, ifs, 0⟩] scope pos) (Dn.D.lc ix it tgd ts de) := fun n c fa G X g => by
  subst hix
  exact (pe_lc g.calm g.nd (hi n c fa G X g) (by rw [g.hN, g.hsc]; exact blkOk_by (blkD_c ok)) (fun s H C cl fp => PG_ex fun D : Addr => ht.pg (g.blk ok D s H C cl fp)) (fun s H C cl fp => PTs_ex fun D : Addr => hts.pts (g.blk ok D s H C cl fp))
    (fun s H C cl fp => PE_ex fun D : Addr => he n c fa _ _ (g.blk ok D s H C cl fp)) (hfs _)).imp lc_imp
theorem lo_lc {ix : List Nat} {it : DI} {tgd : DTg} {ts : List DE} : LstOnly (Dn.D.lc ix it tgd ts de) := fun cs σ st v st' h => lstOnly_bind h fun a st1 _ q => by
  split at q
  · exact lstOnly_bind q fun ys st2 _ q => by cases q; exact ⟨_, rfl⟩
  · cases q
end
end Dn


namespace L2
open PySem PySem.Spec PyProof.Rows
section
variable {X : Cx} {pins : List (Addr × Obj)} {σ : St} {W : XK} {C : Addr}
end
end L2
namespace L2
open PySem PySem.Spec PyProof.Rows
section
variable {X : Cx} {W : XK}
end
end L2


namespace Dn
open PySem L2
namespace D
end D
section
variable {Γ : Pg} {n : Nat} {c fa : Nat → Addr} {G : Fr} {N : List Str} {sc scope : Scope} {X : Cx} {κ : Cn} {cs : CS}
variable {a b e d tg iter elt : Expr} {da db dd de : DE} {pos p : Pos} {es : List Expr} {ds : DEs}
end
end Dn


namespace Dn
open PySem L2
def FlP (κ : Cn) (G : Fr) (Z : Ends) : Flow × Env → Store → List Addr → Hp → Prop := fun p _ ρ' H' => match p.1 with
  | .nx => ∀ σ', REnv κ (Fo G.B ρ') ρ' H' p.2 σ' → Z.nx σ' H'
  | .ret v => ∀ u, RV κ (Fo G.B ρ') ρ' H' v u → Z.rt u H'
  | .brk => ∀ σ', REnv κ (Fo G.B ρ') ρ' H' p.2 σ' → Z.bk σ' H'
  | .cnt => ∀ σ', REnv κ (Fo G.B ρ') ρ' H' p.2 σ' → Z.ct σ' H'
def tS (κ : Cn) (G : Fr) (cs : CS) (d : DS) : TS := fun Z σ H => ∃ ρ st σp, At κ G ρ st H ∧ REnv κ (Fo G.B ρ) ρ H σp σ ∧ Out κ G ρ H (d cs σp st) (FlP κ G Z)
structure Fnl (κ : Cn) (G : Fr) (X : Cx) : Prop where
  fn : ∀ x, X.fn x = true
  tk : Takes X (fun cls d _ H => EXK κ G cls d H)
  stk : X.stack = X.env :: X.outer
  fr : X.env.frame = some X.env.locals
  po : PassesOwn (model X.prog X.w) X.A X.env X.xe
def SS (Γ : Pg) (N : List Str) (sc : Scope) (x : Stmt) (d : DS) : Prop := ∀ (n : Nat) (c fa : Nat → Addr) (G : Fr) (X : Cx), Good Γ n c fa G N sc X → Fnl (cnOf X c) G X → PS X x (tS (cnOf X c) G (callN Γ.tbl n) d)
def SSs (Γ : Pg) (N : List Str) (sc : Scope) (x : List Stmt) (d : DS) : Prop := ∀ (n : Nat) (c fa : Nat → Addr) (G : Fr) (X : Cx), Good Γ n c fa G N sc X → Fnl (cnOf X c) G X → PSs X x (tS (cnOf X c) G (callN Γ.tbl n) d)
theorem _root_.L2.PS.imp {X : Cx} {e : Stmt} {t t' : TS} (h : PS X e t) (i : ∀ Z σ H, t' Z σ H → t Z σ H) : PS X e t' := ⟨fun pins s σ H Q I q => h.run pins s σ H Q I (i Q σ H q)⟩
theorem _root_.L2.PSs.imp {X : Cx} {e : List Stmt} {t t' : TS} (h : PSs X e t) (i : ∀ Z σ H, t' Z σ H → t Z σ H) : PSs X e t' := ⟨fun pins s σ H Q I q => h.run pins s σ H Q I (i Q σ H q)⟩
section
variable {Γ : Pg} {n : Nat} {c fa : Nat → Addr} {G : Fr} {N : List Str} {sc scope : Scope} {X : Cx} {κ : Cn} {cs : CS}
variable {a b e tg iter elt t : Expr} {da db dd de d dt : DE} {pos p : Pos} {es : List Expr} {ds : DEs} {x y : Stmt} {xs ys : List Stmt} {dx dy : DS} {g : DTg}
theorem SSs.nil : SSs Γ N sc [] D.pass := fun n c fa G X gd hf => pss_nil.imp fun Z σ H ⟨ρ, st, σp, A, R, o⟩ => o.ret A σ R
theorem SS.pass : SS Γ N sc (.Pass pos) D.pass := fun n c fa G X gd hf => ps_pass.imp fun Z σ H ⟨ρ, st, σp, A, R, o⟩ => o.ret A σ R
theorem SS.brk : SS Γ N sc (.Break pos) D.brk := fun n c fa G X gd hf => ps_break.imp fun Z σ H ⟨ρ, st, σp, A, R, o⟩ => o.ret A σ R
theorem SS.cnt : SS Γ N sc (.Continue pos) D.cnt := fun n c fa G X gd hf => ps_continue.imp fun Z σ H ⟨ρ, st, σp, A, R, o⟩ => o.ret A σ R
theorem SS.stuck : SS Γ N sc x D.stuck := fun n c fa G X gd hf => ps_never.imp fun Z σ H ⟨ρ, st, σp, A, R, o⟩ => o.elim
theorem SSs.stuck : SSs Γ N sc xs D.stuck := fun n c fa G X gd hf => pss_never.imp fun Z σ H ⟨ρ, st, σp, A, R, o⟩ => o.elim
theorem SSs.one (h : SS Γ N sc x dx) : SSs Γ N sc [x] dx := fun n c fa G X gd hf => pss_one (h n c fa G X gd hf)
theorem SSs.cons (h : SS Γ N sc x dx) (hs : SSs Γ N sc xs dy) : SSs Γ N sc (x :: xs) (D.seq dx dy) := fun n c fa G X gd hf => (pss_cons (h n c fa G X gd hf) (hs n c fa G X gd hf)).imp fun Z σ H ⟨ρ, st, σp, A, R, o⟩ => by
  refine ⟨ρ, st, σp, A, R, o.bind.mono fun p st1 ρ1 H1 e1 A1 o1 => ?_⟩
  obtain ⟨f, σ1⟩ := p
  cases f with
  | nx => exact fun σ' R' => ⟨ρ1, st1, σ1, A1, R', o1⟩
  | ret v => exact o1.ret A1
  | brk => exact o1.ret A1
  | cnt => exact o1.ret A1
theorem SS.expr (h : SE Γ N sc e d) (hs : ∀ env, swapsWith e none pos.line env = pure false := by intro _; rfl) : SS Γ N sc (.Expr e pos) (D.expr d) := fun n c fa G X gd hf => (ps_expr (h n c fa G X gd) (hs _)).imp fun Z σ H ⟨ρ, st, σp, A, R, o⟩ =>
  tE_bind A R o fun v st1 ρ1 H1 u e1 A1 R1 r o1 => o1.ret A1 σ R1
theorem SS.ret (h : SE Γ N sc e d) : SS Γ N sc (.Return (some e) pos) (D.ret d) := fun n c fa G X gd hf => (ps_ret (h n c fa G X gd)).imp fun Z σ H ⟨ρ, st, σp, A, R, o⟩ =>
  tE_bind A R o fun v st1 ρ1 H1 u e1 A1 R1 r o1 => o1.ret A1 u r
theorem SS.if (ht : ST Γ N sc t dt) (h1 : SSs Γ N sc xs dx) (h2 : SSs Γ N sc ys dy) : SS Γ N sc (.If t xs ys pos) (D.cond dt dx dy) := fun n c fa G X gd hf => (ps_if (ht n c fa G X gd) (h1 n c fa G X gd hf) (h2 n c fa G X gd hf)).imp fun Z σ H ⟨ρ, st, σp, A, R, o⟩ => by
  refine tT_bind A R o fun v st1 ρ1 H1 e1 A1 R1 o1 => ?_
  split at o1
  · exact ⟨true, rfl, ⟨ρ1, st1, σp, A1, R1, o1⟩⟩
  · exact ⟨false, rfl, ⟨ρ1, st1, σp, A1, R1, o1⟩⟩
  · exact o1.elim
theorem env_sc {P : PySem.Env → Prop} (g : Good Γ n c fa G N sc X) (h : ∀ env : PySem.Env, P { env with scope := sc }) : P X.env := by
  have := h X.env
  rw [← g.hsc] at this
  exact this
theorem SS.asg (h : SE Γ N sc e d) (hg : SG Γ N sc tg g) (hs : ∀ env : PySem.Env, swapsWithSole [tg] e pos.line { env with scope := sc } = pure false := by intro _; rfl) (hw : ∀ env : PySem.Env, swappedStores [tg] e { env with scope := sc } = pure none := by intro _; rfl)
    (h1 : ∀ env, (assignEach [tg] env).map (·.2) = [assign tg env] := by intro _; rfl) : SS Γ N sc (.Assign [tg] e pos) (D.asg g d) := fun n c fa G X gd hf => (ps_asg (h n c fa G X gd) (hg n c fa G X gd hf.fn) (env_sc (P := fun env => swapsWithSole [tg] e pos.line env = pure false) gd hs) (env_sc (P := fun env => swappedStores [tg] e env = pure none) gd hw) (h1 _)).imp fun Z σ H ⟨ρ, st, σp, A, R, o⟩ => by
  refine tE_bind A R o fun v st1 ρ1 H1 u e1 A1 R1 r o1 => ?_
  refine ⟨ρ1, st1, σp, v, A1, R1, r, o1.bind.mono fun σ2 st2 ρ2 H2 e2 A2 o2 σ' R' => o2.ret A2 σ' R'⟩
def okP (N : List Str) (sc : Scope) (i j : Nat) (x y : Str) : Bool := okO N sc i x && (okO N sc j y && !(i.beq j))
theorem SS.par {i j : Nat} {x y : Str} {px py pt pt2 : Pos} {kt k2} (h : okP N sc i j x y = true) (ha : SE Γ N sc a da) (hb : SE Γ N sc b db) (hw : ∀ env : PySem.Env, swappedStores [.Tuple [.Name x px, .Name y py] kt pt] (.Tuple [a, b] k2 pt2) { env with scope := sc } = pure (some [x, y]) := by intro _; rfl)
    (hst : ∀ env, starEach [a, b] env = [(false, eval a env), (false, eval b env)] := by intro _; rfl) (hst2 : ∀ env, starEach [b] env = [(false, eval b env)] := by intro _; rfl) : SS Γ N sc (.Assign [.Tuple [.Name x px, .Name y py] kt pt] (.Tuple [a, b] k2 pt2) pos) (D.par i j da db) := fun n c fa G X gd hf => by
  unfold okP okO at h
  simp only [Bool.and_eq_true, decide_eq_true_eq, Bool.not_eq_true'] at h
  obtain ⟨⟨h1, h2⟩, ⟨h3, h4⟩, h5⟩ := h
  have hij : i ≠ j := fun z => by subst z; simp at h5
  have e1 : starEach [a, b] X.env = (false, eval a X.env) :: starEach [b] X.env := by rw [hst, hst2]
  refine (ps_par gd.calm gd.nd (by rw [gd.hN]; exact h1) (by rw [gd.hN]; exact h3) hij (by rw [gd.hsc]; exact h2) (by rw [gd.hsc]; exact h4) (pa_cons (ha n c fa G X gd) (pa_cons (hb n c fa G X gd) pa_nil (hst2 _)) e1)
    (env_sc (P := fun env => swappedStores [.Tuple [.Name x px, .Name y py] kt pt] (.Tuple [a, b] k2 pt2) env = pure (some [x, y])) gd hw)).imp ?_
  rintro Z σ H ⟨ρ, st, σp, A, R, o⟩
  refine tE_bind A R o fun v st1 ρ1 H1 u e1 A1 R1 r o1 => ?_
  refine tE_bind A1 R1 o1 fun w st2 ρ2 H2 z e2 A2 R2 rz o2 => ?_
  exact ⟨u, z, rfl, o2.ret A2 _ ((R2.set (r.mono e2.mono)).set rz)⟩
theorem STs.nil : STs Γ N sc [] [] := trivial
theorem STs.one (h : ST Γ N sc t dt) : STs Γ N sc [t] [dt] := h
theorem SS.setLc {i : Nat} {y : Str} {py spos : Pos} {own : List (Str × Nat)} {ix : List Nat} {ifs : List Expr} {it : DI} {tgd : DTg} {ts : List DE} {d' : DE} (hy : okO N sc i y = true) (ok : blkD N sc scope own = true) (hix : own.map (·.2) = ix) (hi : SI Γ N sc tg iter it) (ht : Keeps ix tg tgd Γ N (relSc scope sc))
    (hts : STs Γ N (relSc scope sc) ifs ts) (he : SE Γ N (relSc scope sc) elt de) (hv : ∀ κ G cs σ H Q, tE κ G cs d' σ H Q → tF κ G cs (Dn.D.lc ix it tgd ts de) σ H Q) (hsw : ∀ env : PySem.Env, swapsWith (.ListComp elt [⟨tg, iter, ifs, 0⟩] scope pos) (some (.Name y py)) spos.line { env with scope := sc } = pure true := by intro _; rfl)
    (hfs : ∀ env x, foldedSetIterable iter env x = pure x := by intro _ _; rfl) : SS Γ N sc (.Assign [.Name y py] (.ListComp elt [⟨tg, iter, ifs, 0⟩] scope pos) spos) (D.asg (D.tn i) d') := fun n c fa G X g hf => by
  unfold okO at hy
  simp only [Bool.and_eq_true, decide_eq_true_eq] at hy
  subst hix
  refine (ps_setLc (g := fun v σ H Q => ∃ D, gW (own.map (·.2)) (cnOf X c) (G.blk D) (callN Γ.tbl n) tgd v σ H Q) (tt := fun σ H Q => ∃ D, tTs (cnOf X c) (G.blk D) (callN Γ.tbl n) ts σ H Q) (te := fun σ H Q => ∃ D, tE (cnOf X c) (G.blk D) (callN Γ.tbl n) de σ H Q) g.calm g.nd (by rw [g.hN]; exact hy.1) (by rw [g.hsc]; exact hy.2) (env_sc (P := fun env => swapsWith (.ListComp elt [⟨tg, iter, ifs, 0⟩] scope pos) (some (.Name y py)) spos.line env = pure true) g hsw) (hi n c fa G X g) (by rw [g.hN, g.hsc]; exact blkOk_by (blkD_c ok)) (fun s H C cl fp => PG_ex fun D : Addr => ht.pg (g.blk ok D s H C cl fp)) (fun s H C cl fp => PTs_ex fun D : Addr => hts.pts (g.blk ok D s H C cl fp))
    (fun s H C cl fp => PE_ex fun D : Addr => he n c fa _ _ (g.blk ok D s H C cl fp)) (hfs _)).imp ?_
  rintro Z σ H ⟨ρ, st, σp, A, R, o⟩
  refine lc_imp _ _ _ (hv _ _ _ _ _ _ ?_)
  refine tE_bind A R o fun v st1 ρ1 H1 u e1 A1 R1 r o1 => ?_
  exact o1.ret A1 _ (R1.set r)

theorem SS.for {it : DI} (hi : SI Γ N sc tg iter it) (hg : SG Γ N sc tg g) (hb : SSs Γ N sc xs dx) (hfs : ∀ env x, foldedSetIterable iter env x = pure x := by intro _ _; rfl) : SS Γ N sc (.For tg iter xs [] pos) (Dn.D.for g it dx) := fun n c fa G X gd hf => by
  refine (ps_for hf.po gd.calm (hi n c fa G X gd) (hg n c fa G X gd hf.fn) (hb n c fa G X gd hf) (hfs _)).imp ?_
  rintro Z σ H ⟨ρ, st, σp, A, R, o⟩
  refine ⟨ρ, st, σp, A, R, o.bind.mono fun pr st1 ρ1 H1 e1 A1 o1 J hJ => ?_⟩
  obtain ⟨vs, src⟩ := pr
  let cs := callN Γ.tbl n
  have o1 : Out (cnOf X c) G ρ1 H1 (Dn.D.forL g dx cs src vs vs σp st1) (FlP (cnOf X c) G Z) := o1
  let W : Nat → St → Hp → Prop := fun i σ H => ∃ ρ st σp, Ext ρ1 H1 ρ H ∧ At (cnOf X c) G ρ st H ∧ REnv (cnOf X c) (Fo G.B ρ) ρ H σp σ ∧ Out (cnOf X c) G ρ H (Dn.D.forL g dx cs src vs (vs.drop i) σp st) (FlP (cnOf X c) G Z)
  refine ⟨fun i m σ H => m = vs.length - i ∧ i ≤ vs.length ∧ W i σ H, ⟨vs.length, by simp, Nat.zero_le _, ρ1, st1, σp, Ext.refl, A1, R.mono e1.mono, o1⟩, ?_⟩
  rintro i m σ2 H2 ⟨rfl, hi, ρ2, st2, σp2, e2, A2, R2, o2⟩
  by_cases hlt : i < vs.length
  · refine .inr ?_
    have hdrop : vs.drop i = vs[i] :: vs.drop (i + 1) := List.drop_eq_getElem_cons hlt
    rw [hdrop] at o2
    have o2 : Out (cnOf X c) G ρ2 H2 (if Dn.D.stands src vs st2 = true then (g cs vs[i] σp2 st2).bind fun σ st => (dx cs σ st).bind fun p st => match p.1 with
      | .nx => Dn.D.forL g dx cs src vs (vs.drop (i + 1)) p.2 st
      | .cnt => Dn.D.forL g dx cs src vs (vs.drop (i + 1)) p.2 st
      | .brk => .ok (.nx, p.2) st
      | .ret v => .ok (.ret v, p.2) st else .bad) (FlP (cnOf X c) G Z) := o2
    split at o2
    · rename_i hs
      obtain ⟨go, yl⟩ := hJ.go G.B i ρ2 st2 H2 (fun a _ z => z) e2 A2.wd hs hlt
      refine ⟨go, W (i + 1), fun σ' H' w => ⟨vs.length - (i + 1), by omega, rfl, hlt, w⟩, fun x H3 hy => ?_⟩
      obtain ⟨e3, W3, pv, ep, rp⟩ := yl x H3 hy
      rw [List.getElem?_eq_getElem hlt] at ep
      cases ep
      have A3 := A2.step e3 W3
      refine ⟨ρ2, st2, σp2, vs[i], A3, R2.mono e3.mono, rp, (o2.weak e3).bind.mono fun σ4 st4 ρ4 H4 e4 A4 o4 σ4' R4 => ?_⟩
      refine ⟨ρ4, st4, σ4, A4, R4, o4.bind.mono fun p st5 ρ5 H5 e5 A5 o5 => ?_⟩
      have e6 := ((e2.trans e3).trans e4).trans e5
      obtain ⟨f, σ5⟩ := p
      cases f with
      | nx => exact fun σ' R' => ⟨ρ5, st5, σ5, e6, A5, R', o5⟩
      | cnt => exact fun σ' R' => ⟨ρ5, st5, σ5, e6, A5, R', o5⟩
      | brk => exact o5.ret A5
      | ret v => exact o5.ret A5
    · exact o2.elim
  · refine .inl ?_
    have hdrop : vs.drop i = [] := List.drop_eq_nil_of_le (Nat.le_of_not_lt hlt)
    rw [hdrop] at o2
    have o2 : Out (cnOf X c) G ρ2 H2 (if Dn.D.stands src vs st2 = true then .ok (.nx, σp2) st2 else .bad) (FlP (cnOf X c) G Z) := o2
    split at o2
    · rename_i hs
      exact ⟨hJ.stop G.B i ρ2 st2 H2 (fun a _ z => z) e2 A2.wd hs (Nat.le_of_not_lt hlt), o2.ret A2 σ2 R2⟩
    · exact o2.elim
end
end Dn


namespace Dn
open PySem L2
open PyProof.Rows (envOfC)

section
variable {κ : Cn} {B F F' : Addr → Prop} {ρ ρ' : List Addr} {H H' : Hp} {st : Store}
mutual
theorem RV.plain : ∀ {p : PV} {v : V}, plain p = true → RV κ F ρ H p v → RV κ F ρ' H p v
  | .non, v, _, h => by simp only [RV] at h ⊢; exact h
  | .bl b, v, _, h => by simp only [RV] at h ⊢; exact h
  | .int i, v, _, h => by simp only [RV] at h ⊢; exact h
  | .str x, v, _, h => by simp only [RV] at h ⊢; exact h
  | .tup ps, v, hp, h => by
    simp only [RV] at h ⊢
    obtain ⟨a, xs, e, h1, h2⟩ := h
    exact ⟨a, xs, e, h1, RVs.plain hp h2⟩
  | .lst ps, v, hp, h => by
    simp only [RV] at h ⊢
    obtain ⟨a, xs, e, h1, n, h2⟩ := h
    exact ⟨a, xs, e, h1, n, RVs.plain hp h2⟩
  | .scr ns, v, _, h => by simp only [RV] at h ⊢; exact h
  | .dic false kvs, v, hp, h => by
    simp only [RV] at h ⊢
    obtain ⟨a, es, e, h1, n, h2⟩ := h
    exact ⟨a, es, e, h1, n, RKs.plain hp h2⟩
  | .dic true kvs, v, hp, h => by
    simp only [RV] at h ⊢
    obtain ⟨a, es, e, h1, n, h2⟩ := h
    exact ⟨a, es, e, h1, n, RTs.plain hp h2⟩
  | .ref n, v, hp, h => by cases hp
theorem RVs.plain : ∀ {p : List PV} {v : List V}, plainL p = true → RVs κ F ρ H p v → RVs κ F ρ' H p v
  | [], v, _, h => by simp only [RVs] at h ⊢; exact h
  | p :: ps, v, hp, h => by
    simp only [RVs] at h ⊢
    have hp := (Bool.and_eq_true ..).mp (show (Dn.plain p && plainL ps) = true from hp)
    obtain ⟨w, r, e, h1, h2⟩ := h
    exact ⟨w, r, e, RV.plain hp.1 h1, RVs.plain hp.2 h2⟩
theorem RKs.plain : ∀ {p : List (PV × PV)} {v : List (Key × V)}, plainD p = true → RKs κ F ρ H p v → RKs κ F ρ' H p v
  | [], v, _, h => by simp only [RKs] at h ⊢; exact h
  | (k, p) :: ps, v, hp, h => by
    simp only [RKs] at h ⊢
    have hp := (Bool.and_eq_true ..).mp (show ((Dn.plain k && Dn.plain p) && plainD ps) = true from hp)
    have hp1 := (Bool.and_eq_true ..).mp hp.1
    obtain ⟨kk, w, r, e, h0, h1, h2⟩ := h
    exact ⟨kk, w, r, e, h0, RV.plain hp1.2 h1, RKs.plain hp.2 h2⟩
theorem RTs.plain : ∀ {p : List (PV × PV)} {v : List (NestedKey × Addr × V)}, plainD p = true → RTs κ F ρ H p v → RTs κ F ρ' H p v
  | [], v, _, h => by simp only [RTs] at h ⊢; exact h
  | (k, p) :: ps, v, hp, h => by
    simp only [RTs] at h ⊢
    have hp := (Bool.and_eq_true ..).mp (show ((Dn.plain k && Dn.plain p) && plainD ps) = true from hp)
    have hp1 := (Bool.and_eq_true ..).mp hp.1
    obtain ⟨kk, a, w, r, e, h0, hk, h1, h2⟩ := h
    exact ⟨kk, a, w, r, e, h0, RV.plain hp1.1 hk, RV.plain hp1.2 h1, RTs.plain hp.2 h2⟩
end
theorem narrow (h : ∀ a, H a ≠ none → ¬ F a → ¬ F' a) : Mono κ F [] H F' ρ' H := ⟨fun _ _ h => h, fun _ _ h _ _ => h, h, fun n a h => by simp at h⟩
mutual
theorem nk_plain : ∀ {p : PV} {k : NestedKey}, toNK p = some k → plain p = true
  | .int _, _, _ => rfl
  | .str _, _, _ => rfl
  | .tup xs, k, h => by
    simp only [toNK] at h
    obtain ⟨ks, e, _⟩ := Option.map_eq_some_iff.mp h
    exact nks_plain e
  | .non, _, h => by cases h
  | .bl _, _, h => by cases h
  | .lst _, _, h => by cases h
  | .scr _, _, h => by cases h
  | .dic _ _, _, h => by cases h
  | .ref _, _, h => by cases h
theorem nks_plain : ∀ {p : List PV} {k : List NestedKey}, toNKs p = some k → plainL p = true
  | [], _, _ => rfl
  | x :: xs, k, h => by
    simp only [toNKs] at h
    obtain ⟨a, e1, e2⟩ := Option.bind_eq_some_iff.mp h
    obtain ⟨b, e3, _⟩ := Option.map_eq_some_iff.mp e2
    show (plain x && plainL xs) = true
    rw [nk_plain e1, nks_plain e3]; rfl
end
theorem key_plain {p : PV} {k : Key} (h : toKey p = some k) : plain p = true := by
  cases p <;> first | rfl | cases h
theorem freeze_rv (W : Wd κ B ρ st H) : ∀ (n : Nat) {p q : PV} {v : V}, freeze st n p = some q → RV κ (Fo B ρ) ρ H p v → RV κ B [] H q v := by
  have nb : ∀ a, H a ≠ none → ¬ Fo B ρ a → ¬ B a := fun a _ n z => n (.inl z)
  have pl : ∀ {p : PV} {v : V}, plain p = true → RV κ (Fo B ρ) ρ H p v → RV κ B [] H p v := fun hp h => (RV.plain (ρ' := []) hp h).mono (narrow nb)
  have ls : ∀ n, (∀ {p q : PV} {v : V}, freeze st n p = some q → RV κ (Fo B ρ) ρ H p v → RV κ B [] H q v) → ∀ (ps : List PV) {qs : List PV} {vs : List V}, ps.mapM (freeze st n) = some qs → RVs κ (Fo B ρ) ρ H ps vs → RVs κ B [] H qs vs := by
    intro n ih ps
    induction ps with
    | nil =>
      intro qs vs h r
      simp only [List.mapM_nil, Option.pure_def, Option.some.injEq] at h
      subst h
      simpa only [RVs] using r
    | cons p ps iu =>
      intro qs vs h r
      simp only [List.mapM_cons, Option.pure_def, Option.bind_eq_bind, Option.bind_eq_some_iff, Option.some.injEq] at h
      obtain ⟨a, e1, b, e2, rfl⟩ := h
      simp only [RVs] at r
      obtain ⟨w, vr, rfl, r1, r2⟩ := r
      exact RVs.cons (ih e1 r1) (iu e2 r2)
  intro n
  induction n with
  | zero =>
    intro p q v h r
    simp only [freeze] at h
    split at h
    · cases h; exact pl (by assumption) r
    · cases h
  | succ n ih =>
    intro p q v h r
    have ot : plain p = true → p = q → RV κ B [] H q v := fun a b => by subst b; exact pl a r
    cases p with
    | ref k =>
      simp only [RV] at r
      obtain ⟨a, rfl, h1⟩ := r
      have nB : ¬ B a := W.sep a (List.mem_of_getElem? h1)
      simp only [freeze] at h
      split at h
      · rename_i xs e
        obtain ⟨ys, e2, rfl⟩ := Option.map_eq_some_iff.mp h
        obtain ⟨vs, h2, h3⟩ := W.ob k _ a e h1
        simp only [RV]
        exact ⟨a, vs, rfl, h2, nB, ls n ih xs e2 h3⟩
      · rename_i t kvs e
        obtain ⟨ys, e2, rfl⟩ := Option.map_eq_some_iff.mp h
        have o := W.ob k _ a e h1
        cases t with
        | false =>
          obtain ⟨es, h2, h3⟩ := o
          simp only [RV]
          refine ⟨a, es, rfl, h2, nB, ?_⟩
          clear e h2 ot h
          induction kvs generalizing ys es with
          | nil =>
            simp only [List.mapM_nil, Option.pure_def, Option.some.injEq] at e2
            subst e2
            simpa only [RKs] using h3
          | cons kv kvs iu =>
            obtain ⟨kk, pp⟩ := kv
            simp only [List.mapM_cons, Option.pure_def, Option.bind_eq_bind, Option.bind_eq_some_iff, Option.some.injEq, Option.map_eq_some_iff] at e2
            obtain ⟨z, ⟨a1, e3, a2, e4, rfl⟩, b, e5, rfl⟩ := e2
            simp only [RKs] at h3
            obtain ⟨k', w, r', rfl, h4, h5, h6⟩ := h3
            rw [freeze_plain st n (key_plain h4)] at e3
            cases e3
            simp only [RKs]
            exact ⟨k', w, r', rfl, h4, ih e4 h5, iu b e5 r' h6⟩
        | true =>
          obtain ⟨es, h2, h3⟩ := o
          simp only [RV]
          refine ⟨a, es, rfl, h2, nB, ?_⟩
          clear e h2 ot h
          induction kvs generalizing ys es with
          | nil =>
            simp only [List.mapM_nil, Option.pure_def, Option.some.injEq] at e2
            subst e2
            simpa only [RTs] using h3
          | cons kv kvs iu =>
            obtain ⟨kk, pp⟩ := kv
            simp only [List.mapM_cons, Option.pure_def, Option.bind_eq_bind, Option.bind_eq_some_iff, Option.some.injEq, Option.map_eq_some_iff] at e2
            obtain ⟨z, ⟨a1, e3, a2, e4, rfl⟩, b, e5, rfl⟩ := e2
            simp only [RTs] at h3
            obtain ⟨k', a', w, r', rfl, h4, hk, h5, h6⟩ := h3
            have hp := nk_plain h4
            rw [freeze_plain st n hp] at e3
            cases e3
            simp only [RTs]
            exact ⟨k', a', w, r', rfl, h4, pl hp hk, ih e4 h5, iu b e5 r' h6⟩
      · cases h
    | tup xs =>
      simp only [freeze] at h
      split at h
      · cases h; exact pl (by assumption) r
      · obtain ⟨ys, e2, rfl⟩ := Option.map_eq_some_iff.mp h
        simp only [RV] at r ⊢
        obtain ⟨a, vs, rfl, h1, h2⟩ := r
        exact ⟨a, vs, rfl, h1, ls n ih xs e2 h2⟩
    | lst xs =>
      simp only [freeze] at h
      split at h
      · cases h; exact pl (by assumption) r
      · obtain ⟨ys, e2, rfl⟩ := Option.map_eq_some_iff.mp h
        simp only [RV] at r ⊢
        obtain ⟨a, vs, rfl, h1, n', h2⟩ := r
        exact ⟨a, vs, rfl, h1, fun z => n' (.inl z), ls n ih xs e2 h2⟩
    | _ => simp only [freeze] at h; (split at h <;> first | (cases h; done) | (cases h; exact pl (by assumption) r))
theorem rvs_narrow {ps : List PV} {vs : List V} (hp : plainL ps = true) (r : RVs κ (Fo B ρ) ρ H ps vs) : RVs κ (Fo (Fo B ρ) []) [] H ps vs := by
  refine (RVs.plain (ρ' := []) hp r).mono (narrow fun a _ n z => n ?_)
  rcases z with z | z
  · exact z
  · exact absurd z (by simp)
theorem start_env {N : List Str} {m : Nat} (hm : m = N.length) {pvs : List PV} {vs : List V} (r : RVs κ F ρ H pvs vs) : REnv κ F ρ H (start m pvs) (L2.start N vs) := by
  subst hm
  have hl := r.length
  refine ⟨by simp [start, L2.start, hl], fun i p e => ?_⟩
  unfold start at e
  unfold L2.start
  by_cases hi : i < pvs.length
  · rw [List.getElem?_append_left (by simpa using hi), List.getElem?_map] at e
    rw [List.getElem?_append_left (by rw [List.length_map, ← hl]; exact hi), List.getElem?_map]
    have e : Option.map some pvs[i]? = some (some p) := e
    cases q : pvs[i]? with
    | none => rw [q] at e; cases e
    | some x =>
      rw [q] at e
      cases e
      obtain ⟨y, ey, ry⟩ := r.get q
      exact ⟨y, by rw [ey]; rfl, ry⟩
  · rw [List.getElem?_append_right (by simpa using hi), List.getElem?_replicate] at e
    split at e <;> cases e
theorem ext_pure {ρ1 : List Addr} (W : Wd κ B ρ st H) (e : Ext [] H ρ1 H') : Ext ρ H ρ H' := by
  have no : ∀ a, H a ≠ none → a ∉ ρ1 := fun a h => e.out (by simp) h
  exact ⟨⟨[], by simp, by simp⟩, e.dom, fun a o h _ t => e.keep a o h (no a (by rw [h]; simp)) t, e.tup, e.frz⟩
theorem wd_pure {ρ1 : List Addr} (W : Wd κ B ρ st H) (e : Ext [] H ρ1 H') (t : TabsOk κ.K H') : Wd κ B ρ st H' := by
  refine W.ext_same (ext_pure W e) t fun a ha => ?_
  obtain ⟨n, hn⟩ := List.getElem?_of_mem ha
  have hl : n < st.length := by rw [← W.len]; exact (List.getElem?_eq_some_iff.mp hn).1
  obtain ⟨u, hu, nb⟩ := (W.ob n st[n] a (by simp [hl]) hn).notb
  rw [hu]
  exact e.keep a u hu (e.out (by simp) (by rw [hu]; simp)) nb.1
end

section
variable {Γ : Pg} {P : Program} {w : World} {K : PySem.W.Frag} {mg : Str → Option Value} {base : Heap} {c fa : Nat → Addr} {n f : Nat} {d : FnD} {x qual : Str} {params : Arguments} {body : List Stmt} {scope : Scope} {dvs : List V} {kws : List (Str × V)} {fd : FuncData} {N ps : List Str}
theorem good_of {cdv : Value} {A : Around} {outer : List PySem.Env} {s : Shared} {H0 : Hp} {E : XK} {G : Fr} {a : Addr} (cd : CdAt K a qual cdv) (lq : lamB N = true → qual ∈ Γ.lams) (S : FnScope N ps scope) (IH : ∀ m, m ≤ n → EnvOk Γ ⟨P, w, K, c⟩ mg base m fa) (ng : NoG (A.deeper (envOfC qual scope s.heap.objs.size a cdv))) (hr : Room (2 * n + 1) (A.deeper (envOfC qual scope s.heap.objs.size a cdv)))
    (hE : ∀ cls d H', EXK ⟨P, w, K, c⟩ G cls d H' → E cls d H') : Good Γ n c fa G N scope (cxOf (L2.CX P w) P w K mg base N qual scope a cdv A outer s H0 E) where
  hN := rfl
  hsc := rfl
  nd := S.nd
  calm := rfl
  room := hr
  ng := ng
  envs := IH
  ps := passes_call (E := EXK ⟨P, w, K, c⟩ G) (takes_of (E := E) rfl rfl rfl rfl) fun cls d _ H' h => hE cls d H' h
  kind := S.kind
  lamc := fun _ h => by
    have hq := lq h
    have hne : Γ.lams ≠ [] := fun z => by rw [z] at hq; cases hq
    obtain ⟨oc, od, fd, osl, e1, e2, e3, e4⟩ := cd
    obtain ⟨cc, P, h1, h2⟩ := ((IH n (Nat.le_refl n)).lm hne).has _ _ _ _ _ e1 (by rw [e3]; exact hq) (by rw [e2, e3]; exact e4)
    exact ⟨hne, cc, P, e2.symm.trans h1, by rw [e3] at h2; exact h2⟩
  tp := fun _ _ => ⟨rfl, rfl, (takes_of (E := E) rfl rfl rfl rfl).imp fun cls d _ H' h => hE cls d H' h⟩
theorem spI_ok (lq : lamB N = true → qual ∈ Γ.lams) (hd : Γ.rt f = some d) (F : FunD K x qual params body scope dvs kws (fa f) fd) (S : FnScope N ps scope) (hN : d.size = N.length) (hp : d.np = ps.length) (hb : SSs Γ N scope body d.body) (IH : ∀ m, m ≤ n → EnvOk Γ ⟨P, w, K, c⟩ mg base m fa) :
    FnG P w K mg base (L2.CX P w) (2 * (n + 1)) (fa f) fd ps (spI ⟨P, w, K, c⟩ Γ (n + 1) f) := by
  refine F.g (lv := 2 * n + 1) S (fun vs H Q E h => ?_) fun cdv cd A outer s H vs Q E ng hr h => ?_
  · obtain ⟨B, ρ, st, pvs, W, r, ⟨d', e, hl⟩, o⟩ := h
    rw [Pg.rt_tbl hd] at e
    cases e
    rw [← r.length, hl, hp]
  · obtain ⟨B, ρ, st, pvs, W, r, ⟨d', e, hl⟩, o⟩ := h
    rw [Pg.rt_tbl hd] at e
    cases e
    have o : OutF ⟨P, w, K, c⟩ B ρ H (match Γ.tbl f with | some d => runFn d (callN Γ.tbl n) pvs st | none => .bad) Q E := o
    rw [Pg.rt_tbl hd] at o
    have o : OutF ⟨P, w, K, c⟩ B ρ H (runFn d (callN Γ.tbl n) pvs st) Q E := o
    unfold runFn at o
    rw [if_pos (show pvs.length.beq d.np = true by rw [hl]; exact Nat.beq_refl _)] at o
    split at o
    · -- a store of its own
      split at o
      · rename_i hpl
        let G : Fr := ⟨Fo B ρ, [], H, fun e _ => ∀ H' cls dd, Ext ρ H ρ H' → Wd ⟨P, w, K, c⟩ B ρ st H' → RX ⟨P, w, K, c⟩ e cls dd H' → E cls dd H'⟩
        have W0 : Wd ⟨P, w, K, c⟩ (Fo B ρ) [] [] H := Wd.nil (fun a ha => by
          rcases ha with z | z
          · exact W.dom a z
          · exact W.has z) W.tabs
        have hE : ∀ cls dd H', EXK ⟨P, w, K, c⟩ G cls dd H' → E cls dd H' := by
          rintro cls dd H' ⟨e, st', ρ', A', rx, gx⟩
          exact gx H' cls dd (ext_pure W A'.ext) (wd_pure W A'.ext A'.wd.tabs) rx
        refine ⟨tS ⟨P, w, K, c⟩ G (callN Γ.tbl n) d.body, hb n c fa G _ (good_of cd lq S IH ng hr hE) ⟨fun _ => rfl, (takes_of rfl rfl rfl rfl).imp fun cls dd _ H' h => hE cls dd H' h, rfl, rfl, passes_of rfl⟩, [], [], start d.size pvs, ⟨W0, Ext.refl⟩, start_env hN (rvs_narrow hpl r), ?_⟩
        cases q : d.body (callN Γ.tbl n) (start d.size pvs) [] with
        | ok p st' =>
          rw [q] at o
          intro ρ1 H1 e1 A1
          have key : ∀ v u, retOf p.1 = some v → RV ⟨P, w, K, c⟩ (Fo G.B ρ1) ρ1 H1 v u → Q u H1 := fun v u e r1 => by
            have o : OutF ⟨P, w, K, c⟩ B ρ H (Res.of st ((retOf p.1).bind (freeze st' 4))) Q E := o
            rw [e] at o
            have o : OutF ⟨P, w, K, c⟩ B ρ H (Res.of st (freeze st' 4 v)) Q E := o
            cases fz : freeze st' 4 v with
            | none => rw [fz] at o; exact False.elim o
            | some v' =>
              rw [fz] at o
              have r2 := freeze_rv A1.wd 4 fz r1
              refine o ρ H1 u (ext_pure W A1.ext) (wd_pure W A1.ext A1.wd.tabs) (r2.mono ⟨fun _ _ h => h, fun _ _ h _ _ => h, fun _ _ h => h, fun n a h => by simp at h⟩)
          obtain ⟨fl, σ1⟩ := p
          cases fl with
          | nx => exact fun σ' _ => key .non .non rfl (by simp only [RV])
          | ret v => exact fun u ru => key v u rfl ru
          | brk => exact (show False from o).elim
          | cnt => exact (show False from o).elim
        | exc e st' =>
          rw [q] at o
          intro H' cls dd e' W' rx
          exact o ρ H' cls dd e' W' rx
        | bad => rw [q] at o; exact o
      · exact o.elim
    · -- the caller's store
      let G : Fr := ⟨B, ρ, H, fun e st' => ∀ ρ' H' cls dd, Ext ρ H ρ' H' → Wd ⟨P, w, K, c⟩ B ρ' st' H' → RX ⟨P, w, K, c⟩ e cls dd H' → E cls dd H'⟩
      have hE : ∀ cls dd H', EXK ⟨P, w, K, c⟩ G cls dd H' → E cls dd H' := by
        rintro cls dd H' ⟨e, st', ρ', A', rx, gx⟩
        exact gx ρ' H' cls dd A'.ext A'.wd rx
      refine ⟨tS ⟨P, w, K, c⟩ G (callN Γ.tbl n) d.body, hb n c fa G _ (good_of cd lq S IH ng hr hE) ⟨fun _ => rfl, (takes_of rfl rfl rfl rfl).imp fun cls dd _ H' h => hE cls dd H' h, rfl, rfl, passes_of rfl⟩, ρ, st, start d.size pvs, ⟨W, Ext.refl⟩, start_env hN r, ?_⟩
      cases q : d.body (callN Γ.tbl n) (start d.size pvs) st with
      | ok p st' =>
        rw [q] at o
        intro ρ1 H1 e1 A1
        have o : OutF ⟨P, w, K, c⟩ B ρ H (Res.of st' (retOf p.1)) Q E := o
        obtain ⟨fl, σ1⟩ := p
        cases fl with
        | nx => exact fun σ' _ => o ρ1 H1 .non e1 A1.wd (by simp only [RV])
        | ret v => exact fun u ru => o ρ1 H1 u e1 A1.wd ru
        | brk => exact (show False from o).elim
        | cnt => exact (show False from o).elim
      | exc e st' =>
        rw [q] at o
        intro ρ' H' cls dd e' W' rx
        exact o ρ' H' cls dd e' W' rx
      | bad => rw [q] at o; exact o
structure DefOk (Γ : Pg) (K : PySem.W.Frag) (fa : Nat → Addr) (f : Nat) (d : FnD) : Prop where
  ex : ∃ (x qual : Str) (params : Arguments) (body : List Stmt) (scope : Scope) (dvs : List V) (kws : List (Str × V)) (fd : FuncData) (N ps : List Str), FunD K x qual params body scope dvs kws (fa f) fd ∧ (lamB N = true → qual ∈ Γ.lams) ∧ FnScope N ps scope ∧ d.size = N.length ∧ d.np = ps.length ∧ SSs Γ N scope body d.body ∧
    (∀ j, j ≤ (Γ.dfl f).length → ∃ ds us, Binds K fd ps ds ∧ Vals us ds ∧ ∀ κ F ρ H, κ.K = K → RVs κ F ρ H ((Γ.dfl f).drop j) us) ∧
    ∀ k ∈ Γ.kw f, ∃ g us, KBn K fd ps k.n k.ks g (fun vs zs => pick k.perm (vs ++ zs ++ us)) ∧ ∀ κ F ρ H, κ.K = K → RVs κ F ρ H (Γ.dfl f) us
theorem envOk_all (hf : ∀ f d, Γ.rt f = some d → DefOk Γ K fa f d) (gn : ∀ f x, Γ.gname f = some x → mg x = some (.ref (fa f)))
    (cn : ∀ C x, Γ.cname C = some x → mg x = some (.ref (c C)) ∧ Mk K (c C) (fa (Γ.cinit C)) ∧ Cls K (c C)) (fl : ∀ C x f, Γ.cname C = some x → f ∈ Γ.flds C → NoAttr K (c C) f)
    (me : ∀ C x m f, Γ.cname C = some x → (m, f) ∈ Γ.meths C → Meth K (c C) m (fa f)) (ct : ∀ x v, Γ.consts x = some v → ∃ u y, mg x = some u ∧ RelV y u ∧ ∀ κ F ρ H, κ.K = K → RV κ F ρ H v y) (bl : ∀ x, x ∈ Γ.free → mg x = none) (isc : ∀ C ∈ Γ.isc, InsX K (c C))
    (exn : ∀ C x, Γ.exn C = some x → mg x = some (.ref (c C)) ∧ ExK K (c C)) (exs : ∀ p ∈ Γ.exs, PySem.W.exmOne K (.ref (c p.1)) (.ref (c p.2)) = some true)
    (tb : ∀ t ∈ tabsK K, LamX.TabB base mg t.1 t.2.1) (lm : Γ.lams ≠ [] → LamD K Γ.lams) (sys : SysOk K) (sd : Γ.kinds ≠ [] → Nonempty (SaidT K mg c Γ.kinds)) (xv : ∀ p, Γ.xvs = some p → XvT K mg c p.1 p.2.1 p.2.2) :
    ∀ n, EnvOk Γ ⟨P, w, K, c⟩ mg base n fa := by
  have mk : ∀ n, (∀ f d, Γ.rt f = some d → ∃ fd ps, FnG P w K mg base (L2.CX P w) (2 * n) (fa f) fd ps (spI ⟨P, w, K, c⟩ Γ n f) ∧ ps.length = d.np ∧ PySem.W.keepIn K (.ref (fa f)) = true ∧
    ∀ j, j ≤ (Γ.dfl f).length → ∃ ds dvs, Binds K fd ps ds ∧ Vals dvs ds ∧ ∀ F ρ H, RVs ⟨P, w, K, c⟩ F ρ H ((Γ.dfl f).drop j) dvs) → (∀ f d, Γ.rt f = some d → ∀ k ∈ Γ.kw f, ∃ fd ps g dvs, FnG P w K mg base (L2.CX P w) (2 * n) (fa f) fd ps (spI ⟨P, w, K, c⟩ Γ n f) ∧ PySem.W.keepIn K (.ref (fa f)) = true ∧
    KBn K fd ps k.n k.ks g (fun vs zs => pick k.perm (vs ++ zs ++ dvs)) ∧ ∀ F ρ H, RVs ⟨P, w, K, c⟩ F ρ H (Γ.dfl f) dvs) → EnvOk Γ ⟨P, w, K, c⟩ mg base n fa :=
    fun n h hk => ⟨h, gn, cn, fl, me, fun x v e => let ⟨u, y, h1, h2, h3⟩ := ct x v e; ⟨u, y, h1, h2, fun F ρ H => h3 _ F ρ H rfl⟩, bl, hk, isc, exn, exs, tb, lm, sys, sd, xv⟩
  suffices all : ∀ n m, m ≤ n → EnvOk Γ ⟨P, w, K, c⟩ mg base m fa from fun n => all n n (Nat.le_refl n)
  intro n
  induction n with
  | zero =>
    intro m hm
    obtain rfl : m = 0 := Nat.le_zero.mp hm
    have no : ∀ f fd ps, FnG P w K mg base (L2.CX P w) (2 * 0) (fa f) fd ps (spI ⟨P, w, K, c⟩ Γ 0 f) := fun f fd ps => ⟨fun vs H Q E ⟨_, _, _, _, _, _, _, o⟩ => (show False from o).elim, fun A outer s H args us vs Q E _ _ _ _ _ ⟨_, _, _, _, _, _, _, o⟩ => (show False from o).elim⟩
    refine mk 0 (fun f d hd => ?_) fun f d hd k hk => ?_
    · obtain ⟨x, qual, params, body, scope, dvs, kws, fd, N, ps, F, lq, S, h1, h2, h3, h4, h5⟩ := (hf f d hd).ex
      refine ⟨fd, ps, no f fd ps, h2.symm, F.kp, fun j hj => ?_⟩
      obtain ⟨ds, us, a, b, k⟩ := h4 j hj
      exact ⟨ds, us, a, b, fun F ρ H => k _ F ρ H rfl⟩
    · obtain ⟨x, qual, params, body, scope, dvs, kws, fd, N, ps, F, lq, S, h1, h2, h3, h4, h5⟩ := (hf f d hd).ex
      obtain ⟨g, us, a, b⟩ := h5 k hk
      exact ⟨fd, ps, g, us, no f fd ps, F.kp, a, fun F ρ H => b _ F ρ H rfl⟩
  | succ n ih =>
    intro m hm
    by_cases hmn : m ≤ n
    · exact ih m hmn
    obtain rfl : m = n + 1 := by omega
    refine mk (n + 1) (fun f d hd => ?_) fun f d hd k hk => ?_
    · obtain ⟨x, qual, params, body, scope, dvs, kws, fd, N, ps, F, lq, S, h1, h2, h3, h4, h5⟩ := (hf f d hd).ex
      refine ⟨fd, ps, spI_ok lq hd F S h1 h2 h3 ih, h2.symm, F.kp, fun j hj => ?_⟩
      obtain ⟨ds, us, a, b, k⟩ := h4 j hj
      exact ⟨ds, us, a, b, fun F ρ H => k _ F ρ H rfl⟩
    · obtain ⟨x, qual, params, body, scope, dvs, kws, fd, N, ps, F, lq, S, h1, h2, h3, h4, h5⟩ := (hf f d hd).ex
      obtain ⟨g, us, a, b⟩ := h5 k hk
      exact ⟨fd, ps, g, us, spI_ok lq hd F S h1 h2 h3 ih, F.kp, a, fun F ρ H => b _ F ρ H rfl⟩
end
end Dn


namespace Dn
open PySem L2
namespace D
def tryRet (catch_ : Nat → Bool) (body : DS) (m : Str) : DS := fun c σ st => match body c σ st with
  | .ok p st => .ok p st
  | .exc e st => if catch_ e.c then .ok (.ret (.str m), σ) st else .bad
  | .bad => .bad
end D
def okEx (Γ : Pg) (sc : Scope) (C : Nat) (x : Str) : Bool := GlB sc x && nameOk x && decide (Γ.exn C = some x)
section
variable {Γ : Pg} {n : Nat} {c fa : Nat → Addr} {G : Fr} {N : List Str} {sc : Scope} {X : Cx} {κ : Cn} {cs : CS}
theorem SS.tryRet {x m : Str} {j : Nat} {np p2 rp hp pos : Pos} {body : List Stmt} {db : DS} {cat : Nat → Bool} (hE : ∀ (n : Nat) (c fa : Nat → Addr) (G : Fr) (X : Cx), Good Γ n c fa G N sc X → ∃ cv, Names X x cv ∧ ∀ C, cat C = true → PySem.W.exmOne X.K (.ref (c C)) cv = some true)
    (hb : SSs Γ N sc body db) : SS Γ N sc (.Try body [.ExceptHandler (some (.Name x np)) none [.Return (some (.Constant (.str m) j p2)) rp] hp] [] [] pos) (D.tryRet cat db m) := fun n c fa G X g hf => by
  obtain ⟨cv, hN, hcat⟩ := hE n c fa G X g
  refine (ps_try_only (tb := fun W Z σ H => ∃ G' : Fr, (∀ cls d σ H, EXK (cnOf X c) G' cls d H → W cls d σ H) ∧ tS (cnOf X c) G' (callN Γ.tbl n) db Z σ H) (ts := fun _ _ _ Z σ H => Z.rt (.str m) H) hf.stk hf.fr hN hf.tk (fun W pn xe tk po => ?_) fun a oe cls d pn hz hv => ?_).imp ?_
  · refine ⟨fun pins s σ H Q I ht => ?_⟩
    obtain ⟨G', hW, ht⟩ := ht
    exact (hb n c fa G' (X.tr pn xe) ⟨g.hN, g.hsc, g.nd, g.calm, g.room, g.ng, g.envs, passes_call tk (fun cls d σ H h => hW cls d σ H h), g.kind, g.lamc, fun _ _ => ⟨hf.stk, hf.fr, tk.imp fun cls d σ H h => hW cls d σ H h⟩⟩ ⟨hf.fn, tk.imp fun cls d σ H h => hW cls d σ H h, hf.stk, hf.fr, po⟩).run pins s σ H Q I ht
  · exact (pss_one (ps_ret pe_str)).imp fun Z σ H h => h
  · rintro Z σ H ⟨ρ, st, σp, A, R, o⟩
    refine ⟨⟨G.B, ρ, H, fun e st' => cat e.c = true ∧ ∀ ρ' H', Ext ρ H ρ' H' → At (cnOf X c) G ρ' st' H' → Z.rt (.str m) H'⟩, ?_, ρ, st, σp, ⟨A.wd, Ext.refl⟩, R, ?_⟩
    · rintro cls d σ' H' ⟨e, st', ρ', A', rx, hc, hz⟩
      refine ⟨true, ?_, fun _ a _ => hz ρ' H' A'.ext ⟨A'.wd, A.ext.trans A'.ext⟩, fun h => nomatch h⟩
      rw [rx.1]
      exact hcat _ hc
    · unfold D.tryRet at o
      cases q : db (callN Γ.tbl n) σp st with
      | ok p st1 =>
        rw [q] at o
        intro ρ' H' e' A'
        exact o ρ' H' e' ⟨A'.wd, A.ext.trans A'.ext⟩
      | exc e st1 =>
        rw [q] at o
        simp only at o
        split at o
        · rename_i hc
          exact ⟨hc, fun ρ' H' e' A' => o ρ' H' e' A' (.str m) (by simp only [RV])⟩
        · exact o.elim
      | bad => rw [q] at o; exact o.elim
theorem SS.try {T : Nat} {cs : List Nat} {x m : Str} {j : Nat} {np p2 rp hp pos : Pos} {body : List Stmt} {db : DS} (h : okEx Γ sc T x = true) (hc : cs.all (fun C => Γ.exs.contains (C, T)) = true) (hb : SSs Γ N sc body db) :
    SS Γ N sc (.Try body [.ExceptHandler (some (.Name x np)) none [.Return (some (.Constant (.str m) j p2)) rp] hp] [] [] pos) (D.tryRet (fun C => cs.contains C) db m) := by
  unfold okEx at h
  simp only [Bool.and_eq_true, decide_eq_true_eq] at h
  refine SS.tryRet (fun n c fa G X g => ?_) hb
  obtain ⟨h1, h2⟩ := g.env.exn T x h.2
  refine ⟨_, ⟨gl_of g h.1.1, nameOk_d h.1.2, .inl h1⟩, fun C hC => ?_⟩
  have := List.all_eq_true.mp hc C (by simpa using hC)
  exact g.env.exs (C, T) (by simpa using this)
end
end Dn


namespace ZM
open PySem L2
section
variable {prog : Program} {w : World} {A : Around} {E : Value → Shared → Prop} {s : Shared}
def SIt (k : Bool) (h : Heap) (it l : Addr) (i : Nat) : Prop := match k with
  | true => h.IsTupleIter it l i
  | false => h.IsListIter it l i
def SSq (k : Bool) (h : Heap) (l : Addr) (us : Array Value) : Prop := match k with
  | true => h.IsTuple l us
  | false => h.IsList l us
theorem SIt.extBut {k : Bool} {h h' : Heap} {a b l : Addr} {i : Nat} (x : SIt k h a l i) (hs : Heap.ExtBut b h h') (n : a ≠ b) : SIt k h' a l i := by
  cases k
  · exact Heap.IsListIter.extBut x hs n
  · exact Heap.IsTupleIter.extBut x hs n
theorem SSq.extBut {k : Bool} {h h' : Heap} {a b : Addr} {us : Array Value} (x : SSq k h a us) (hs : Heap.ExtBut b h h') (n : a ≠ b) : SSq k h' a us := by
  cases k
  · exact Heap.IsList.extBut x hs n
  · exact Heap.IsTuple.extBut x hs n
theorem SIt.at {k : Bool} {h h' : Heap} {a l : Addr} {i : Nat} (x : SIt k h a l i) (e : ∀ o, h.get? a = some o → h'.get? a = some o) : SIt k h' a l i := by
  cases k
  · exact Heap.IsListIter.at x e
  · exact Heap.IsTupleIter.at x e
theorem SIt.obj {k : Bool} {h : Heap} {a l : Addr} {i : Nat} (x : SIt k h a l i) : ∃ o, h.get? a = some o ∧ ∀ v, o.data ≠ .cell v := by
  cases k <;> (obtain ⟨o, e, _, d⟩ := x; exact ⟨o, e, fun v q => by rw [d] at q; cases q⟩)
theorem SSq.lt {k : Bool} {h : Heap} {a : Addr} {us : Array Value} (x : SSq k h a us) : a < h.objs.size := by
  cases k <;> (obtain ⟨o, e, _⟩ := x; exact Heap.lt_size e)
theorem it_item {k : Bool} {it l : Addr} {i : Nat} {us : Array Value} {x : Value} {Q : Value → Shared → Prop} (a : SIt k s.heap it l i) (b : SSq k s.heap l us) (c : us[i]? = some x)
    (f : ∀ h', SIt k h' it l (i + 1) → Heap.SameBut it s.heap h' → Q x { s with heap := h' }) : wpAny (model prog w) A (Builtin.SmallTypes.nextOf (.ref it)) Q E s := by
  cases k
  · exact wpAny_nextOf_list_item a b c f
  · exact RZ.nextOf_tuple_item a b c f
theorem it_end {k : Bool} {it l : Addr} {i : Nat} {us : Array Value} {Q : Value → Shared → Prop} (nh : A.handled = none) (a : SIt k s.heap it l i) (b : SSq k s.heap l us) (c : us[i]? = none)
    (f : ∀ h' e, Heap.ExtBut it s.heap h' → (∃ o, h'.get? e = some o ∧ o.cls = .type "StopIteration") → E (.ref e) { s with heap := h' }) : wpAny (model prog w) A (Builtin.SmallTypes.nextOf (.ref it)) Q E s := by
  cases k
  · exact wpAny_nextOf_list_end nh a b c f
  · exact RZ.nextOf_tuple_end nh a b c f
theorem zm_next_item {ka kb : Bool} {zz pI pO j1 j2 t1 t2 : Addr} {n1 n2 : Nat} {us ws : Array Value} {x y a b : Value} {Q : Value → Shared → Prop} (ap : ZipApart zz pI pO j1 j2 t1 t2)
    (qz : IsZip s.heap zz pI pO .none) (qI : IsPair s.heap pI (.ref j1) (.ref j2)) (qO : IsPair s.heap pO a b)
    (w1 : SIt ka s.heap j1 t1 n1) (w2 : SIt kb s.heap j2 t2 n2) (e1 : SSq ka s.heap t1 us) (e2 : SSq kb s.heap t2 ws) (gx : us[n1]? = some x) (gy : ws[n2]? = some y)
    (fin : ∀ h', IsZip h' zz pI pO (rawInt s.heap.objs.size) → IsPair h' pO x y → SIt ka h' j1 t1 (n1 + 1) → SIt kb h' j2 t2 (n2 + 1) → IsPair h' s.heap.objs.size x y → h'.objs.size = s.heap.objs.size + 1 →
      (∀ c o, c ≠ zz → c ≠ pO → c ≠ j1 → c ≠ j2 → s.heap.get? c = some o → h'.get? c = some o) → Q (.ref s.heap.objs.size) { s with heap := h' }) :
    wpAny (model prog w) A (Builtin.«zip.__next__» ⟨[.ref zz], []⟩) (fun fin s' => ∃ v, fin = .done (.ret v) ∧ Q v s') E s := by
  show wpAny _ _ (field (.ref zz) 2 >>= _) _ _ _
  refine wpAny_bind (wpAny_field qz rfl (x := .bool false) rfl ?_)
  show wpAny _ _ (field (.ref zz) 3 >>= _) _ _ _
  refine wpAny_bind (wpAny_field qz rfl (x := .ref pI) rfl ?_)
  refine wpAny_bind (wpAny_seqItems qI rfl ?_)
  show wpAny _ _ (Builtin.SmallTypes.ownedTupleIsFree (.ref zz) >>= _) _ _ _
  refine wpAny_bind ?_
  unfold Builtin.SmallTypes.ownedTupleIsFree
  refine wpAny_bind (wpAny_field qz rfl (x := .none) rfl (wpAny_pure ?_))
  simp only [if_true]
  refine wpAny_bind (wpAny_rule ?_)
  refine wpAny_bind (wpAny_field qz rfl (x := .ref pO) rfl ?_)
  refine wpAny_bind (wpAny_setField_rec qz (by simp) fun m₁ qz₁ sb₁ => ?_)
  replace qz₁ : IsZip m₁ zz pI pO .ellipsis := qz₁
  refine wpAny_bind ?_
  simp only [List.forIn_cons, List.forIn_nil, List.zipIdx_nil, List.zipIdx_cons]

  refine wpAny_bind (wpAny_bind (wpAny_onRaise ?_))
  show wpAny _ _ (Builtin.SmallTypes.nextOf (.ref j1) >>= _) _ _ _
  refine wpAny_bind (it_item (w1.extBut sb₁.extBut ap.i1z) (e1.extBut sb₁.extBut ap.l1z) gx fun m₂ w1₂ sb₂ => wpAny_pure ?_)
  have qO₂ : IsPair m₂ pO a b := sb₂.extBut _ _ ap.TOi1 (sb₁.extBut _ _ ap.TOz qO)
  refine wpAny_bind (wpAny_seqItems qO₂ rfl ?_)
  refine wpAny_bind (wpAny_updateSeq_pair qO₂ fun m₃ qO₃ sb₃ => ?_)
  replace qO₃ : IsPair m₃ pO x b := qO₃
  refine wpAny_bind (wpAny_letGo (wpAny_pure ?_))

  refine wpAny_bind (wpAny_bind (wpAny_onRaise ?_))
  show wpAny _ _ (Builtin.SmallTypes.nextOf (.ref j2) >>= _) _ _ _
  refine wpAny_bind (it_item (((w2.extBut sb₁.extBut ap.i2z).extBut sb₂.extBut ap.i12.symm).extBut sb₃.extBut ap.TOi2.symm)
    (((e2.extBut sb₁.extBut ap.l2z).extBut sb₂.extBut ap.l2i1).extBut sb₃.extBut ap.l2TO) gy fun m₄ w2₄ sb₄ => wpAny_pure ?_)
  have qO₄ : IsPair m₄ pO x b := sb₄.extBut _ _ ap.TOi2 qO₃
  refine wpAny_bind (wpAny_seqItems qO₄ rfl ?_)
  refine wpAny_bind (wpAny_updateSeq_pair qO₄ fun m₅ qO₅ sb₅ => ?_)
  replace qO₅ : IsPair m₅ pO x y := qO₅
  refine wpAny_bind (wpAny_letGo (wpAny_pure (wpAny_pure ?_)))

  refine wpAny_bind (wpAny_seqItems qO₅ rfl ?_)
  refine wpAny_bind (wpAny_newTuple ?_)
  have same : m₅.objs.size = s.heap.objs.size := by rw [sb₅.1, sb₄.1, sb₃.1, sb₂.1, sb₁.1]
  have qz₅ : IsZip m₅ zz pI pO .ellipsis := sb₅.extBut _ _ ap.TOz.symm (sb₄.extBut _ _ ap.i2z.symm (sb₃.extBut _ _ ap.TOz.symm (sb₂.extBut _ _ ap.i1z.symm qz₁)))
  have kp₅ : ∀ c o, c ≠ zz → c ≠ pO → c ≠ j1 → c ≠ j2 → s.heap.get? c = some o → m₅.get? c = some o := fun c o c1 c2 c3 c4 e =>
    sb₅.extBut _ _ c2 (sb₄.extBut _ _ c4 (sb₃.extBut _ _ c2 (sb₂.extBut _ _ c3 (sb₁.extBut _ _ c1 e))))
  have w1₅ : SIt ka m₅ j1 t1 (n1 + 1) := ((w1₂.extBut sb₃.extBut ap.TOi1.symm).extBut sb₄.extBut ap.i12).extBut sb₅.extBut ap.TOi1.symm
  have w2₅ : SIt kb m₅ j2 t2 (n2 + 1) := w2₄.extBut sb₅.extBut ap.TOi2.symm
  have ltz : zz < m₅.objs.size := Heap.lt_size qz₅
  have ltO : pO < m₅.objs.size := Heap.lt_size qO₅
  have lt1 : j1 < m₅.objs.size := by obtain ⟨_, e, _⟩ := SIt.obj w1₅; exact Heap.lt_size e
  have lt2 : j2 < m₅.objs.size := by obtain ⟨_, e, _⟩ := SIt.obj w2₅; exact Heap.lt_size e
  show wpAny _ _ (Builtin.SmallTypes.ownedTupleHandOut (.ref zz) (.ref m₅.objs.size) >>= _) _ _ _
  refine wpAny_bind ?_
  unfold Builtin.SmallTypes.ownedTupleHandOut
  have qz₆ : IsZip (m₅.push { cls := .type "tuple", data := .seq #[x, y] }) zz pI pO .ellipsis := Heap.get?_push_of_some _ qz₅
  refine wpAny_bind (wpAny_setField_rec qz₆ (by simp) fun m₇ qz₇ sb₇ => ?_)
  replace qz₇ : IsZip m₇ zz pI pO (rawInt m₅.objs.size) := qz₇
  refine wpAny_setField_rec qz₇ (by simp) fun m₈ qz₈ sb₈ => ?_
  replace qz₈ : IsZip m₈ zz pI pO (rawInt m₅.objs.size) := qz₈
  have lift : ∀ c o, c ≠ zz → m₅.get? c = some o → m₈.get? c = some o := fun c o c1 e => sb₈.extBut _ _ c1 (sb₇.extBut _ _ c1 (Heap.get?_push_of_some _ e))
  have tz₈ : IsPair m₈ m₅.objs.size x y := sb₈.extBut _ _ (Nat.ne_of_gt ltz) (sb₇.extBut _ _ (Nat.ne_of_gt ltz) (Heap.get?_push_size _ rfl))
  have sz8 : m₈.objs.size = m₅.objs.size + 1 := by rw [sb₈.1, sb₇.1, Heap.size_push]
  rw [same] at qz₈ tz₈ sz8
  refine wpAny_pure ⟨_, rfl, ?_⟩
  show Q (.ref m₅.objs.size) _
  rw [same]
  exact fin m₈ qz₈ (lift _ _ ap.TOz qO₅) (w1₅.at fun o e => lift _ o ap.i1z e) (w2₅.at fun o e => lift _ o ap.i2z e) tz₈ sz8 fun c o c1 c2 c3 c4 e => lift c o c1 (kp₅ c o c1 c2 c3 c4 e)

theorem zm_next_end {ka kb : Bool} {zz pI pO j1 j2 t1 t2 : Addr} {n1 n2 : Nat} {us ws : Array Value} {a b : Value} {Q : Fin → Shared → Prop} (nh : A.handled = none) (ap : ZipApart zz pI pO j1 j2 t1 t2)
    (qz : IsZip s.heap zz pI pO .none) (qI : IsPair s.heap pI (.ref j1) (.ref j2)) (qO : IsPair s.heap pO a b)
    (w1 : SIt ka s.heap j1 t1 n1) (w2 : SIt kb s.heap j2 t2 n2) (e1 : SSq ka s.heap t1 us) (e2 : SSq kb s.heap t2 ws) (stp : us[n1]? = none ∨ ws[n2]? = none)
    (bad : ∀ h' e, (∀ c o, c ≠ zz → c ≠ pO → c ≠ j1 → c ≠ j2 → s.heap.get? c = some o → h'.get? c = some o) → (∃ o, h'.get? e = some o ∧ o.cls = .type "StopIteration") → E (.ref e) { s with heap := h' }) :
    wpAny (model prog w) A (Builtin.«zip.__next__» ⟨[.ref zz], []⟩) Q E s := by
  show wpAny _ _ (field (.ref zz) 2 >>= _) _ _ _
  refine wpAny_bind (wpAny_field qz rfl (x := .bool false) rfl ?_)
  show wpAny _ _ (field (.ref zz) 3 >>= _) _ _ _
  refine wpAny_bind (wpAny_field qz rfl (x := .ref pI) rfl ?_)
  refine wpAny_bind (wpAny_seqItems qI rfl ?_)
  show wpAny _ _ (Builtin.SmallTypes.ownedTupleIsFree (.ref zz) >>= _) _ _ _
  refine wpAny_bind ?_
  unfold Builtin.SmallTypes.ownedTupleIsFree
  refine wpAny_bind (wpAny_field qz rfl (x := .none) rfl (wpAny_pure ?_))
  simp only [if_true]
  refine wpAny_bind (wpAny_rule ?_)
  refine wpAny_bind (wpAny_field qz rfl (x := .ref pO) rfl ?_)
  refine wpAny_bind (wpAny_setField_rec qz (by simp) fun m₁ qz₁ sb₁ => ?_)
  replace qz₁ : IsZip m₁ zz pI pO .ellipsis := qz₁
  refine wpAny_bind ?_
  simp only [List.forIn_cons, List.forIn_nil, List.zipIdx_nil, List.zipIdx_cons]
  refine wpAny_bind (wpAny_bind (wpAny_onRaise ?_))
  show wpAny _ _ (Builtin.SmallTypes.nextOf (.ref j1) >>= _) _ _ _
  cases gx : us[n1]? with
  | none =>
    refine wpAny_bind (it_end nh (w1.extBut sb₁.extBut ap.i1z) (e1.extBut sb₁.extBut ap.l1z) gx fun m₂ e sb₂ ez => ?_)
    obtain ⟨oz, az, cz⟩ := ez
    have qz₂ : IsZip m₂ zz pI pO .ellipsis := sb₂ _ _ ap.i1z.symm qz₁
    have nz : e ≠ zz := fun x => by subst x; rw [qz₂] at az; cases az; simp at cz
    refine wpAny_setField_rec qz₂ (by simp) fun m₃ _ sb₃ => bad m₃ e (fun c o c1 _ c3 _ x => sb₃.extBut _ _ c1 (sb₂ _ _ c3 (sb₁.extBut _ _ c1 x))) ⟨oz, sb₃.extBut _ _ nz az, cz⟩
  | some x =>
    have gy : ws[n2]? = none := by rcases stp with h | h; rw [gx] at h; cases h; exact h
    refine wpAny_bind (it_item (w1.extBut sb₁.extBut ap.i1z) (e1.extBut sb₁.extBut ap.l1z) gx fun m₂ w1₂ sb₂ => wpAny_pure ?_)
    have qO₂ : IsPair m₂ pO a b := sb₂.extBut _ _ ap.TOi1 (sb₁.extBut _ _ ap.TOz qO)
    refine wpAny_bind (wpAny_seqItems qO₂ rfl ?_)
    refine wpAny_bind (wpAny_updateSeq_pair qO₂ fun m₃ qO₃ sb₃ => ?_)
    refine wpAny_bind (wpAny_letGo (wpAny_pure ?_))
    refine wpAny_bind (wpAny_bind (wpAny_onRaise ?_))
    show wpAny _ _ (Builtin.SmallTypes.nextOf (.ref j2) >>= _) _ _ _
    refine wpAny_bind (it_end nh (((w2.extBut sb₁.extBut ap.i2z).extBut sb₂.extBut ap.i12.symm).extBut sb₃.extBut ap.TOi2.symm)
      (((e2.extBut sb₁.extBut ap.l2z).extBut sb₂.extBut ap.l2i1).extBut sb₃.extBut ap.l2TO) gy fun m₄ e sb₄ ez => ?_)
    obtain ⟨oz, az, cz⟩ := ez
    have qz₄ : IsZip m₄ zz pI pO .ellipsis := sb₄ _ _ ap.i2z.symm (sb₃.extBut _ _ ap.TOz.symm (sb₂.extBut _ _ ap.i1z.symm qz₁))
    have nz : e ≠ zz := fun x => by subst x; rw [qz₄] at az; cases az; simp at cz
    refine wpAny_setField_rec qz₄ (by simp) fun m₅ _ sb₅ => bad m₅ e (fun c o c1 c2 c3 c4 x => sb₅.extBut _ _ c1 (sb₄ _ _ c4 (sb₃.extBut _ _ c2 (sb₂.extBut _ _ c3 (sb₁.extBut _ _ c1 x))))) ⟨oz, sb₅.extBut _ _ nz az, cz⟩

theorem zm_py_item {ka kb : Bool} {zz pI pO j1 j2 t1 t2 : Addr} {n1 n2 : Nat} {us ws : Array Value} {x y a b : Value} {Q : Option Value → Shared → Prop} (ap : ZipApart zz pI pO j1 j2 t1 t2)
    (qz : IsZip s.heap zz pI pO .none) (qI : IsPair s.heap pI (.ref j1) (.ref j2)) (qO : IsPair s.heap pO a b)
    (w1 : SIt ka s.heap j1 t1 n1) (w2 : SIt kb s.heap j2 t2 n2) (e1 : SSq ka s.heap t1 us) (e2 : SSq kb s.heap t2 ws) (gx : us[n1]? = some x) (gy : ws[n2]? = some y)
    (fin : ∀ h', IsZip h' zz pI pO (rawInt s.heap.objs.size) → IsPair h' pO x y → SIt ka h' j1 t1 (n1 + 1) → SIt kb h' j2 t2 (n2 + 1) → IsPair h' s.heap.objs.size x y → h'.objs.size = s.heap.objs.size + 1 →
      (∀ c o, c ≠ zz → c ≠ pO → c ≠ j1 → c ≠ j2 → s.heap.get? c = some o → h'.get? c = some o) → Q (some (.ref s.heap.objs.size)) { s with heap := h' }) :
    wpAny (model prog w) A (pyNext (.ref zz)) Q E s := by
  have tz : s.TypeIs (.ref zz) "zip" := ⟨_, qz, rfl⟩
  unfold pyNext
  exact wpAny_bind (wpAny_attempt (wpAny_callSpecial?_slot (name := Str.ofString "__next__") tz F.slot_zip_next
    (wpAny_call_entry F.slot_zip_next tz F.entry_zip_next
      (zm_next_item ap qz qI qO w1 w2 e1 e2 gx gy fun h' a1 a2 a3 a4 a5 a6 a7 => wpAny_pure (fin h' a1 a2 a3 a4 a5 a6 a7)) (F.args_zip_next_1 _))))

theorem zm_py_end {ka kb : Bool} {zz pI pO j1 j2 t1 t2 : Addr} {n1 n2 : Nat} {us ws : Array Value} {a b : Value} {Q : Option Value → Shared → Prop} (nh : A.handled = none) (ap : ZipApart zz pI pO j1 j2 t1 t2)
    (qz : IsZip s.heap zz pI pO .none) (qI : IsPair s.heap pI (.ref j1) (.ref j2)) (qO : IsPair s.heap pO a b)
    (w1 : SIt ka s.heap j1 t1 n1) (w2 : SIt kb s.heap j2 t2 n2) (e1 : SSq ka s.heap t1 us) (e2 : SSq kb s.heap t2 ws) (stp : us[n1]? = none ∨ ws[n2]? = none)
    (fin : ∀ h', (∀ c o, c ≠ zz → c ≠ pO → c ≠ j1 → c ≠ j2 → s.heap.get? c = some o → h'.get? c = some o) → Q none { s with heap := h' }) : wpAny (model prog w) A (pyNext (.ref zz)) Q E s := by
  have tz : s.TypeIs (.ref zz) "zip" := ⟨_, qz, rfl⟩
  unfold pyNext
  refine wpAny_bind (wpAny_attempt (wpAny_callSpecial?_slot (name := Str.ofString "__next__") tz F.slot_zip_next
    (wpAny_call_entry F.slot_zip_next tz F.entry_zip_next (zm_next_end nh ap qz qI qO w1 w2 e1 e2 stp fun h' e hk ez => ?_) (F.args_zip_next_1 _))))
  obtain ⟨o, ho, hc⟩ := ez
  refine wpAny_bind (wpAny_isInstance (T := "StopIteration") (b := true) ⟨o, ho, hc⟩ isSubtype_stop ?_)
  exact wpAny_pure (fin _ hk)
end
abbrev itO (k : Bool) (l : Addr) : Obj := { cls := .type (match k with | true => "tuple_iterator" | false => "list_iterator"), data := .fields #[.ref l, .int 0 0] }
abbrev g1 (ka : Bool) (h : Heap) (a : Addr) : Heap := h.push (itO ka a)
abbrev g2 (ka kb : Bool) (h : Heap) (a b : Addr) : Heap := (g1 ka h a).push (itO kb b)
abbrev g3 (ka kb : Bool) (h : Heap) (a b : Addr) : Heap := (g2 ka kb h a b).push { cls := .type "tuple", data := .seq #[.ref h.objs.size, .ref (g1 ka h a).objs.size] }
abbrev g4 (ka kb : Bool) (h : Heap) (a b : Addr) : Heap := (g3 ka kb h a b).push { cls := .type "tuple", data := .seq #[.none, .none] }
abbrev g5 (ka kb : Bool) (h : Heap) (a b : Addr) : Heap := (g4 ka kb h a b).push { cls := .type "zip", data := .fields #[.none, .bool false, .bool false, .ref (g2 ka kb h a b).objs.size, .ref (g3 ka kb h a b).objs.size] }
theorem zm_newLT (a b : Addr) (us ws : Array Value) : Meets (Builtin.«zip.__new__» ⟨[.type "zip", .ref a, .ref b], []⟩) (fun _ R s => s.heap.IsList a us ∧ s.heap.IsTuple b ws ∧ R (.ok (.ret (.ref (g4 false true s.heap a b).objs.size))) { s with heap := g5 false true s.heap a b }) :=
  .of_wp fun prog w A R s z => by
    obtain ⟨hp, g, d, tk, os⟩ := s
    obtain ⟨x1, x2, z⟩ := z
    have sub := sub_zip
    have y1 : Heap.IsList (Shared.heap ⟨hp, g, d, tk, os⟩) a us := x1
    have y2 : Heap.IsTuple (Shared.heap ⟨hp.push { cls := .type "list_iterator", data := .fields #[.ref a, .int 0 0] }, g, d, tk, os⟩) b ws := Heap.IsTuple.push x2 _
    wp_walk using wpAny_pyIter_list y1, wpAny_pyIter_tuple y2
    exact ⟨_, rfl, z⟩
theorem zm_newTL (a b : Addr) (us ws : Array Value) : Meets (Builtin.«zip.__new__» ⟨[.type "zip", .ref a, .ref b], []⟩) (fun _ R s => s.heap.IsTuple a us ∧ s.heap.IsList b ws ∧ R (.ok (.ret (.ref (g4 true false s.heap a b).objs.size))) { s with heap := g5 true false s.heap a b }) :=
  .of_wp fun prog w A R s z => by
    obtain ⟨hp, g, d, tk, os⟩ := s
    obtain ⟨x1, x2, z⟩ := z
    have sub := sub_zip
    have y1 : Heap.IsTuple (Shared.heap ⟨hp, g, d, tk, os⟩) a us := x1
    have y2 : Heap.IsList (Shared.heap ⟨hp.push { cls := .type "tuple_iterator", data := .fields #[.ref a, .int 0 0] }, g, d, tk, os⟩) b ws := Heap.IsList.push x2 _
    wp_walk using wpAny_pyIter_tuple y1, wpAny_pyIter_list y2
    exact ⟨_, rfl, z⟩
theorem zm_newLL (a b : Addr) (us ws : Array Value) : Meets (Builtin.«zip.__new__» ⟨[.type "zip", .ref a, .ref b], []⟩) (fun _ R s => s.heap.IsList a us ∧ s.heap.IsList b ws ∧ R (.ok (.ret (.ref (g4 false false s.heap a b).objs.size))) { s with heap := g5 false false s.heap a b }) :=
  .of_wp fun prog w A R s z => by
    obtain ⟨hp, g, d, tk, os⟩ := s
    obtain ⟨x1, x2, z⟩ := z
    have sub := sub_zip
    have y1 : Heap.IsList (Shared.heap ⟨hp, g, d, tk, os⟩) a us := x1
    have y2 : Heap.IsList (Shared.heap ⟨hp.push { cls := .type "list_iterator", data := .fields #[.ref a, .int 0 0] }, g, d, tk, os⟩) b ws := Heap.IsList.push x2 _
    wp_walk using wpAny_pyIter_list y1, wpAny_pyIter_list y2
    exact ⟨_, rfl, z⟩
theorem zm_newTT (a b : Addr) (us ws : Array Value) : Meets (Builtin.«zip.__new__» ⟨[.type "zip", .ref a, .ref b], []⟩) (fun _ R s => s.heap.IsTuple a us ∧ s.heap.IsTuple b ws ∧ R (.ok (.ret (.ref (g4 true true s.heap a b).objs.size))) { s with heap := g5 true true s.heap a b }) :=
  .of_wp fun prog w A R s z => by
    obtain ⟨hp, g, d, tk, os⟩ := s
    obtain ⟨x1, x2, z⟩ := z
    have sub := sub_zip
    have y1 : Heap.IsTuple (Shared.heap ⟨hp, g, d, tk, os⟩) a us := x1
    have y2 : Heap.IsTuple (Shared.heap ⟨hp.push { cls := .type "tuple_iterator", data := .fields #[.ref a, .int 0 0] }, g, d, tk, os⟩) b ws := Heap.IsTuple.push x2 _
    wp_walk using wpAny_pyIter_tuple y1, wpAny_pyIter_tuple y2
    exact ⟨_, rfl, z⟩
theorem it0 (k : Bool) {h : Heap} {c l : Addr} (e : h.get? c = some (itO k l)) : SIt k h c l 0 := by
  cases k
  · exact ⟨_, e, rfl, rfl⟩
  · exact ⟨_, e, rfl, rfl⟩
section
variable {prog : Program} {w : World} {A : Around} {E : Value → Shared → Prop} {s : Shared}
theorem g_at (ka kb : Bool) (h : Heap) (a b : Addr) : (g4 ka kb h a b).objs.size = h.objs.size + 4 ∧ IsZip (g5 ka kb h a b) (h.objs.size + 4) (h.objs.size + 2) (h.objs.size + 3) .none ∧ IsPair (g5 ka kb h a b) (h.objs.size + 2) (.ref h.objs.size) (.ref (h.objs.size + 1)) ∧
    IsPair (g5 ka kb h a b) (h.objs.size + 3) .none .none ∧ SIt ka (g5 ka kb h a b) h.objs.size a 0 ∧ SIt kb (g5 ka kb h a b) (h.objs.size + 1) b 0 ∧ ∀ c o, h.get? c = some o → (g5 ka kb h a b).get? c = some o := by
  have s1 : (g1 ka h a).objs.size = h.objs.size + 1 := Heap.size_push ..
  have s2 : (g2 ka kb h a b).objs.size = h.objs.size + 2 := by rw [Heap.size_push, s1]
  have s3 : (g3 ka kb h a b).objs.size = h.objs.size + 3 := by rw [Heap.size_push, s2]
  have s4 : (g4 ka kb h a b).objs.size = h.objs.size + 4 := by rw [Heap.size_push, s3]
  have t5 : (g5 ka kb h a b).get? (g4 ka kb h a b).objs.size = some _ := Heap.get?_push_size _ rfl
  have t4 : (g5 ka kb h a b).get? (g3 ka kb h a b).objs.size = some _ := Heap.get?_push_of_some _ (Heap.get?_push_size _ rfl)
  have t3 : (g5 ka kb h a b).get? (g2 ka kb h a b).objs.size = some _ := Heap.get?_push_of_some _ (Heap.get?_push_of_some _ (Heap.get?_push_size _ rfl))
  have t2 : (g5 ka kb h a b).get? (g1 ka h a).objs.size = some (itO kb b) := Heap.get?_push_of_some _ (Heap.get?_push_of_some _ (Heap.get?_push_of_some _ (Heap.get?_push_size _ (by cases kb <;> rfl))))
  have t1 : (g5 ka kb h a b).get? h.objs.size = some (itO ka a) := Heap.get?_push_of_some _ (Heap.get?_push_of_some _ (Heap.get?_push_of_some _ (Heap.get?_push_of_some _ (Heap.get?_push_size _ (by cases ka <;> rfl)))))
  rw [s2, s3, s4] at t5
  rw [s1, s2] at t3
  rw [s3] at t4
  rw [s1] at t2
  exact ⟨s4, t5, t3, t4, it0 ka t1, it0 kb t2, fun c o e => Heap.get?_push_of_some _ (Heap.get?_push_of_some _ (Heap.get?_push_of_some _ (Heap.get?_push_of_some _ (Heap.get?_push_of_some _ e))))⟩
theorem zm_callLT {a b : Addr} {us ws : Array Value} {Q : Value → Shared → Prop} (x1 : s.heap.IsList a us) (x2 : s.heap.IsTuple b ws) (f : Q (.ref (s.heap.objs.size + 4)) { s with heap := g5 false true s.heap a b }) : wpAny (model prog w) A (call (.type "zip") [.ref a, .ref b]) Q E s := by
  have g := g_at false true s.heap a b
  refine callType_new F.called_zip (by decide) (F.typeCall_zip_2 _ _) (F.newCall_zip_2 _ _) (fun obj => F.args_object_init_3 obj _ _) F.entry_zip_new (zm_newLT a b us ws) ⟨x1, x2, ?_⟩
  rw [g.1]
  exact ⟨⟨_, g.2.1, rfl⟩, f⟩
theorem zm_callTL {a b : Addr} {us ws : Array Value} {Q : Value → Shared → Prop} (x1 : s.heap.IsTuple a us) (x2 : s.heap.IsList b ws) (f : Q (.ref (s.heap.objs.size + 4)) { s with heap := g5 true false s.heap a b }) : wpAny (model prog w) A (call (.type "zip") [.ref a, .ref b]) Q E s := by
  have g := g_at true false s.heap a b
  refine callType_new F.called_zip (by decide) (F.typeCall_zip_2 _ _) (F.newCall_zip_2 _ _) (fun obj => F.args_object_init_3 obj _ _) F.entry_zip_new (zm_newTL a b us ws) ⟨x1, x2, ?_⟩
  rw [g.1]
  exact ⟨⟨_, g.2.1, rfl⟩, f⟩
theorem zm_callLL {a b : Addr} {us ws : Array Value} {Q : Value → Shared → Prop} (x1 : s.heap.IsList a us) (x2 : s.heap.IsList b ws) (f : Q (.ref (s.heap.objs.size + 4)) { s with heap := g5 false false s.heap a b }) : wpAny (model prog w) A (call (.type "zip") [.ref a, .ref b]) Q E s := by
  have g := g_at false false s.heap a b
  refine callType_new F.called_zip (by decide) (F.typeCall_zip_2 _ _) (F.newCall_zip_2 _ _) (fun obj => F.args_object_init_3 obj _ _) F.entry_zip_new (zm_newLL a b us ws) ⟨x1, x2, ?_⟩
  rw [g.1]
  exact ⟨⟨_, g.2.1, rfl⟩, f⟩
theorem zm_callTT {a b : Addr} {us ws : Array Value} {Q : Value → Shared → Prop} (x1 : s.heap.IsTuple a us) (x2 : s.heap.IsTuple b ws) (f : Q (.ref (s.heap.objs.size + 4)) { s with heap := g5 true true s.heap a b }) : wpAny (model prog w) A (call (.type "zip") [.ref a, .ref b]) Q E s := by
  have g := g_at true true s.heap a b
  refine callType_new F.called_zip (by decide) (F.typeCall_zip_2 _ _) (F.newCall_zip_2 _ _) (fun obj => F.args_object_init_3 obj _ _) F.entry_zip_new (zm_newTT a b us ws) ⟨x1, x2, ?_⟩
  rw [g.1]
  exact ⟨⟨_, g.2.1, rfl⟩, f⟩
end
def Sq (k : Bool) (K : PySem.W.Frag) (H : Hp) (a : Addr) (us : List V) : Prop := match k with
  | true => SqT K H a us
  | false => SqL K H a us
theorem Sq.read {k : Bool} {X : Cx} {pins : List (Addr × Obj)} {σ : St} {H : Hp} {s : Shared} {a : Addr} {us : List V} (I : Inv X pins σ H s) (x : Sq k X.K H a us) : ∃ its : List Value, Vals us its ∧ SSq k s.heap a its.toArray ∧ us.length ≤ sizeLine := by
  cases k
  · obtain ⟨its, r, p, z⟩ := I.list x
    exact ⟨its, r, p.isList, z⟩
  · obtain ⟨its, r, p, z⟩ := I.tuple x
    exact ⟨its, r, p, z⟩
theorem Sq.inj {k : Bool} {X : Cx} {pins : List (Addr × Obj)} {σ : St} {H : Hp} {s : Shared} {a : Addr} {us ws : List V} (I : Inv X pins σ H s) (x : Sq k X.K H a us) (y : Sq k X.K H a ws) : us = ws := by
  cases k
  · exact I.list_inj x y
  · exact I.tuple_inj x y
def ItM (ka kb : Bool) (K : PySem.W.Frag) (a b : Addr) : It :=
  ⟨fun i H => ∃ (us ws : List V) (x y : V), Sq ka K H a us ∧ Sq kb K H b ws ∧ us[i]? = some x ∧ ws[i]? = some y,
    fun i H v H' => ∃ T ob x y, v = .ref T ∧ H T = none ∧ ob.dict = none ∧ H' = upd H T (.frz ob (.tup [x, y])) ∧ (∀ us, Sq ka K H a us → us[i]? = some x) ∧ ∀ ws, Sq kb K H b ws → ws[i]? = some y,
    fun i H => ∃ us ws : List V, Sq ka K H a us ∧ Sq kb K H b ws ∧ (us.length ≤ i ∨ ws.length ≤ i)⟩
theorem turn_zm {ka kb : Bool} {P : Program} {w : World} {K : PySem.W.Frag} {elts : List Expr} {kk : Nat} {tpos : Pos} {a b zz pI pO j1 j2 : Addr} (ap : ZipApart zz pI pO j1 j2 a b) :
    Turn P w K (.Tuple elts kk tpos) (ItM ka kb K a b) [zz, pI, pO, j1, j2] zz (fun i h => IsZip h zz pI pO .none ∧ IsPair h pI (.ref j1) (.ref j2) ∧ (∃ x y, IsPair h pO x y) ∧ SIt ka h j1 a i ∧ SIt kb h j2 b i) where
  mem := by simp
  obj := fun i h st c hc => by
    obtain ⟨qz, qI, ⟨x, y, qO⟩, r1, r2⟩ := st
    obtain ⟨o1, e1, d1⟩ := SIt.obj r1
    obtain ⟨o2, e2, d2⟩ := SIt.obj r2
    have ee : c = zz ∨ c = pI ∨ c = pO ∨ c = j1 ∨ c = j2 := by simpa using hc
    rcases ee with q | q | q | q | q
    · rw [q]; exact ⟨_, qz, fun v q => nomatch q⟩
    · rw [q]; exact ⟨_, qI, fun v q => nomatch q⟩
    · rw [q]; exact ⟨_, qO, fun v q => nomatch q⟩
    · rw [q]; exact ⟨o1, e1, d1⟩
    · rw [q]; exact ⟨o2, e2, d2⟩
  keep := fun i h h' st k => by
    obtain ⟨qz, qI, ⟨x, y, qO⟩, w1, w2⟩ := st
    exact ⟨k zz (by simp) _ qz, k pI (by simp) _ qI, ⟨x, y, k pO (by simp) _ qO⟩, SIt.at w1 fun o q => k j1 (by simp) o q, SIt.at w2 fun o q => k j2 (by simp) o q⟩
  item := by
    intro X hP hw hK hc i pins s σ H E I hf st hg
    subst hP hw hK
    obtain ⟨qz, qI, ⟨x0, y0, qO⟩, w1, w2⟩ := st
    obtain ⟨us, ws, x, y, hqx, hqy, gx, gy⟩ := hg
    obtain ⟨its, rv, p, _⟩ := Sq.read I hqx
    obtain ⟨its2, rv2, p2, _⟩ := Sq.read I hqy
    obtain ⟨u, hu, ru⟩ := rv.get gx
    obtain ⟨u2, hu2, ru2⟩ := rv2.get gy
    have hzl : zz < s.heap.objs.size := Heap.lt_size qz
    refine zm_py_item ap qz qI qO w1 w2 p p2 (x := u) (y := u2) (by simpa using hu) (by simpa using hu2) fun h' z' TO' h1' h2' tz same hk => ?_
    refine ⟨_, rfl, wpAny_letOwnedTupleGo_zip (s := { s with heap := h' }) z' fun h'' z'' sb => ?_⟩
    have hT2 : h''.get? s.heap.objs.size = some { cls := .type "tuple", data := .seq #[u, u2] } := (sb.2 _ (Nat.ne_of_gt hzl)).trans tz
    have new : ObjOk X.prog X.w (upd H s.heap.objs.size (.frz { cls := .type "tuple", data := .seq #[u, u2] } (.tup [x, y]))) h'' s.heap.objs.size (.frz { cls := .type "tuple", data := .seq #[u, u2] } (.tup [x, y])) :=
      ⟨hT2, by show 2 ≤ sizeLine; decide, [u, u2], .cons ru (.cons ru2 .nil), ⟨_, hT2, rfl, _, rfl⟩⟩
    have I1 : Inv X pins σ (upd H s.heap.objs.size (.frz { cls := .type "tuple", data := .seq #[u, u2] } (.tup [x, y]))) { s with heap := h'' } :=
      I.turnedNew (t' := s.toks) (ch := [zz, pI, pO, j1, j2]) (fun c o hb q => (sb.2 c (fun q' => hb (by simp [q']))).trans (hk c o (fun q' => hb (by simp [q'])) (fun q' => hb (by simp [q'])) (fun q' => hb (by simp [q'])) (fun q' => hb (by simp [q'])) q)) hf (Nat.le_refl _) new
    refine ⟨.ref s.heap.objs.size, _, I1, rfl, ⟨_, _, x, y, rfl, I.hok.fresh (Nat.le_refl _), rfl, rfl, fun l hl => by rw [Sq.inj I hl hqx]; exact gx, fun l hl => by rw [Sq.inj I hl hqy]; exact gy⟩, ⟨z'', ?_, ⟨u, u2, ?_⟩, ?_, ?_⟩, fun c hcm => ?_⟩
    · exact (sb.2 _ ap.TIz).trans (hk _ _ ap.TIz ap.TITO ap.TIi1 ap.TIi2 qI)
    · exact (sb.2 _ ap.TOz).trans TO'
    · exact SIt.at h1' fun o q => (sb.2 _ ap.i1z).trans q
    · exact SIt.at h2' fun o q => (sb.2 _ ap.i2z).trans q
    · have hlt : c < s.heap.objs.size := by
        have ee : c = zz ∨ c = pI ∨ c = pO ∨ c = j1 ∨ c = j2 := by simpa using hcm
        rcases ee with q | q | q | q | q
        · rw [q]; exact hzl
        · rw [q]; exact Heap.lt_size qI
        · rw [q]; exact Heap.lt_size qO
        · rw [q]; obtain ⟨_, e1, _⟩ := SIt.obj w1; exact Heap.lt_size e1
        · rw [q]; obtain ⟨_, e2, _⟩ := SIt.obj w2; exact Heap.lt_size e2
      rw [upd_ne (Nat.ne_of_lt hlt)]
      exact (hf c hcm).1
  done := by
    intro X hP hw hK hc i pins s σ H E I hf st hg
    subst hP hw hK
    obtain ⟨qz, qI, ⟨x0, y0, qO⟩, w1, w2⟩ := st
    obtain ⟨us, ws, hqx, hqy, stp⟩ := hg
    obtain ⟨its, rv, p, _⟩ := Sq.read I hqx
    obtain ⟨its2, rv2, p2, _⟩ := Sq.read I hqy
    have t1 := rv.length
    have t2 := rv2.length
    have ez : its.toArray[i]? = none ∨ its2.toArray[i]? = none := by
      rcases stp with q | q
      · exact .inl (by simp; omega)
      · exact .inr (by simp; omega)
    exact zm_py_end (I.ok.hd hc) ap qz qI qO w1 w2 p p2 ez fun h' hk => ⟨rfl, I.turnedL (t' := s.toks) (ch := [zz, pI, pO, j1, j2]) (fun c o hb q =>
      hk c o (fun q' => hb (by simp [q'])) (fun q' => hb (by simp [q'])) (fun q' => hb (by simp [q'])) (fun q' => hb (by simp [q'])) q) hf⟩
  self := fun A i s Q E st h => wpAny_pyIter_zip st.1 h

def iZipM (K : PySem.W.Frag) (ta : TA) : TI := fun σ H R => ta σ H fun vs H1 => ∃ a b us ws, vs = [.ref a, .ref b] ∧ ((SqL K H1 a us ∧ SqT K H1 b ws ∧ R (ItM false true K a b) H1) ∨ (SqT K H1 a us ∧ SqL K H1 b ws ∧ R (ItM true false K a b) H1) ∨ (SqT K H1 a us ∧ SqT K H1 b ws ∧ R (ItM true true K a b) H1) ∨ (SqL K H1 a us ∧ SqL K H1 b ws ∧ R (ItM false false K a b) H1))
theorem pi_zipM {X : Cx} {e e2 : Expr} {ta : TA} {p pos tpos : Pos} {elts : List Expr} {kk : Nat} (gl : Gl X ("zip" : Str)) (no : X.mg ("zip" : Str) = none) (ar : PA X [e, e2] ta) (st : starEach [e, e2] X.env = (false, eval e X.env) :: starEach [e2] X.env) (pl : (backTo pos (starEach [e2] X.env)).any (·.1) = false) :
    PI X (.Tuple elts kk tpos) (.Call (.Name ("zip" : Str) p) [e, e2] [] pos) (iZipM X.K ta) := by
  refine ⟨fun pins s σ H R I z => ?_⟩
  refine PyProof.Rows.Call_ (ld_blt I gl no PyProof.Rows.boot_zip (PyProof.Rows.callWith_type1 (thn (ar.run pos pins s σ H _ I z) fun us s1 ⟨vs, H1, J, rv, q⟩ => ?_) st pl))
  obtain ⟨a, b, xs, ys, ex, q⟩ := q
  subst ex
  cases rv with
  | cons ra rt =>
  cases rt with
  | cons rb rt =>
    cases rt
    cases ra
    cases rb
    have new : ∀ c, c ∈ [s1.heap.objs.size + 4, s1.heap.objs.size + 2, s1.heap.objs.size + 3, s1.heap.objs.size, s1.heap.objs.size + 1] → FpOk X pins H1 c := fun c hc => by
      have le : s1.heap.objs.size ≤ c := by
        simp only [List.mem_cons, List.not_mem_nil, or_false] at hc
        omega
      exact J.fpOk le (J.hok.fresh le)
    rcases q with ⟨qa, qb, r⟩ | ⟨qa, qb, r⟩ | ⟨qa, qb, r⟩ | ⟨qa, qb, r⟩
    · obtain ⟨i1, _, p1, _⟩ := J.list qa
      obtain ⟨i2, _, p2, _⟩ := J.tuple qb
      have g := g_at false true s1.heap a b
      refine zm_callLT p1.isList (show s1.heap.IsTuple b i2.toArray from p2) (wpAny_pyIter_zip g.2.1 ?_)
      have J2 : Inv X pins σ H1 { s1 with heap := g5 false true s1.heap a b } := J.kept (t' := s1.toks) g.2.2.2.2.2.2
      exact ⟨s1.heap.objs.size + 4, [s1.heap.objs.size + 4, s1.heap.objs.size + 2, s1.heap.objs.size + 3, s1.heap.objs.size, s1.heap.objs.size + 1], _, _, H1, rfl, J2, turn_zm (ka := false) (kb := true) (PySem.W.ktu_apart s1.heap.objs.size a b (SSq.lt (k := false) p1.isList) (SSq.lt (k := true) p2)), ⟨g.2.1, g.2.2.1, ⟨_, _, g.2.2.2.1⟩, g.2.2.2.2.1, g.2.2.2.2.2.1⟩, new, r⟩
    · obtain ⟨i1, _, p1, _⟩ := J.tuple qa
      obtain ⟨i2, _, p2, _⟩ := J.list qb
      have g := g_at true false s1.heap a b
      refine zm_callTL (show s1.heap.IsTuple a i1.toArray from p1) p2.isList (wpAny_pyIter_zip g.2.1 ?_)
      have J2 : Inv X pins σ H1 { s1 with heap := g5 true false s1.heap a b } := J.kept (t' := s1.toks) g.2.2.2.2.2.2
      exact ⟨s1.heap.objs.size + 4, [s1.heap.objs.size + 4, s1.heap.objs.size + 2, s1.heap.objs.size + 3, s1.heap.objs.size, s1.heap.objs.size + 1], _, _, H1, rfl, J2, turn_zm (ka := true) (kb := false) (PySem.W.ktu_apart s1.heap.objs.size a b (SSq.lt (k := true) p1) (SSq.lt (k := false) p2.isList)), ⟨g.2.1, g.2.2.1, ⟨_, _, g.2.2.2.1⟩, g.2.2.2.2.1, g.2.2.2.2.2.1⟩, new, r⟩
    · obtain ⟨i1, _, p1, _⟩ := J.tuple qa
      obtain ⟨i2, _, p2, _⟩ := J.tuple qb
      have g := g_at true true s1.heap a b
      refine zm_callTT (show s1.heap.IsTuple a i1.toArray from p1) (show s1.heap.IsTuple b i2.toArray from p2) (wpAny_pyIter_zip g.2.1 ?_)
      have J2 : Inv X pins σ H1 { s1 with heap := g5 true true s1.heap a b } := J.kept (t' := s1.toks) g.2.2.2.2.2.2
      exact ⟨s1.heap.objs.size + 4, [s1.heap.objs.size + 4, s1.heap.objs.size + 2, s1.heap.objs.size + 3, s1.heap.objs.size, s1.heap.objs.size + 1], _, _, H1, rfl, J2, turn_zm (ka := true) (kb := true) (PySem.W.ktu_apart s1.heap.objs.size a b (SSq.lt (k := true) p1) (SSq.lt (k := true) p2)), ⟨g.2.1, g.2.2.1, ⟨_, _, g.2.2.2.1⟩, g.2.2.2.2.1, g.2.2.2.2.2.1⟩, new, r⟩
    · obtain ⟨i1, _, p1, _⟩ := J.list qa
      obtain ⟨i2, _, p2, _⟩ := J.list qb
      have g := g_at false false s1.heap a b
      refine zm_callLL p1.isList p2.isList (wpAny_pyIter_zip g.2.1 ?_)
      have J2 : Inv X pins σ H1 { s1 with heap := g5 false false s1.heap a b } := J.kept (t' := s1.toks) g.2.2.2.2.2.2
      exact ⟨s1.heap.objs.size + 4, [s1.heap.objs.size + 4, s1.heap.objs.size + 2, s1.heap.objs.size + 3, s1.heap.objs.size, s1.heap.objs.size + 1], _, _, H1, rfl, J2, turn_zm (ka := false) (kb := false) (PySem.W.ktu_apart s1.heap.objs.size a b (SSq.lt (k := false) p1.isList) (SSq.lt (k := false) p2.isList)), ⟨g.2.1, g.2.2.1, ⟨_, _, g.2.2.2.1⟩, g.2.2.2.2.1, g.2.2.2.2.2.1⟩, new, r⟩
end ZM


namespace Dn
open PySem L2
open PySem.W (alike alikeAll dataLt dataLe dataLt_int dataLt_str dataLt_tuple dataLt_all_yes dataLt_all_no dataLt_cons keyToks keyToksAll EachIs TotalLe sort_unique sortLe_total)
open PyProof.Rows (itemOrd listOrd)
mutual
theorem akin_pd : ∀ (x y : PV), akin x y = true → alike (toPD x) (toPD y) = true
  | .int _, y, h => by cases y <;> simp [akin, toPD, alike] at h ⊢
  | .str _, y, h => by cases y <;> simp [akin, toPD, alike] at h ⊢
  | .tup xs, y, h => by
    cases y with
    | tup ys =>
      simp only [akin] at h
      simp only [toPD, alike]
      exact akinL_pd xs ys h
    | _ => simp [akin] at h
  | .non, _, h => by cases h
  | .bl _, _, h => by cases h
  | .lst _, _, h => by cases h
  | .scr _, _, h => by cases h
  | .dic _ _, _, h => by cases h
  | .ref _, _, h => by cases h
theorem akinL_pd : ∀ (x y : List PV), akinL x y = true → alikeAll (toPDs x) (toPDs y) = true
  | [], y, _ => by simp [toPDs, alikeAll]
  | x :: xs, [], _ => by simp [toPDs, alikeAll]
  | x :: xs, y :: ys, h => by
    simp only [akinL, Bool.and_eq_true] at h
    simp only [toPDs, alikeAll, Bool.and_eq_true]
    exact ⟨akin_pd x y h.1, akinL_pd xs ys h.2⟩
end
theorem beq_b (a b : Nat) : a.beq b = true ↔ a = b := ⟨Nat.eq_of_beq_eq_true, fun h => by subst h; exact Nat.beq_refl a⟩
mutual
theorem same_pd : ∀ (x y : PV), akin x y = true → same x y = PyData.eqv (toPD x) (toPD y)
  | .int _, y, h => by cases y <;> simp [akin, toPD, same, PyData.eqv] at h ⊢ <;> (rw [Bool.eq_iff_iff]; simp)
  | .str a, y, h => by
    cases y with
    | str b =>
      simp only [same, toPD, PyData.eqv]
      rw [Bool.eq_iff_iff, sEq_iff, beq_iff_eq]
    | _ => simp [akin] at h
  | .tup xs, y, h => by
    cases y with
    | tup ys =>
      simp only [akin] at h
      simp only [same, toPD, PyData.eqv]
      exact sameL_pd xs ys h
    | _ => simp [akin] at h
  | .non, _, h => by cases h
  | .bl _, _, h => by cases h
  | .lst _, _, h => by cases h
  | .scr _, _, h => by cases h
  | .dic _ _, _, h => by cases h
  | .ref _, _, h => by cases h
theorem sameL_pd : ∀ (x y : List PV), akinL x y = true → sameL x y = PyData.eqvAll (toPDs x) (toPDs y)
  | [], [], _ => by simp [sameL, toPDs, PyData.eqvAll]
  | [], _ :: _, _ => by simp [sameL, toPDs, PyData.eqvAll]
  | x :: xs, [], _ => by simp [sameL, toPDs, PyData.eqvAll]
  | x :: xs, y :: ys, h => by
    simp only [akinL, Bool.and_eq_true] at h
    simp only [sameL, toPDs, PyData.eqvAll]
    rw [same_pd x y h.1, sameL_pd xs ys h.2]
end
theorem sLt_dec : ∀ (a b : List Nat), sLt a b = decide (a < b)
  | [], [] => by simp [sLt]
  | [], _ :: _ => by simp [sLt]
  | _ :: _, [] => by simp [sLt]
  | a :: as, b :: bs => by
    simp only [sLt]
    rw [sLt_dec as bs]
    by_cases e : a = b
    · subst e
      simp [Nat.beq_refl]
    · have : a.beq b = false := by
        cases q : a.beq b
        · rfl
        · exact absurd ((beq_b a b).mp q) e
      rw [this]
      rw [Bool.eq_iff_iff]
      simp [List.cons_lt_cons_iff, e, Nat.blt_eq]
mutual
theorem lt_pd : ∀ (x y : PV), akin x y = true → dataLt (toPD x) (toPD y) = lt x y
  | .int a, y, h => by
    cases y with
    | int b => simp only [toPD, lt, dataLt_int]
    | _ => simp [akin] at h
  | .str a, y, h => by
    cases y with
    | str b => simp only [toPD, lt, dataLt_str, sLt_dec]
    | _ => simp [akin] at h
  | .tup xs, y, h => by
    cases y with
    | tup ys =>
      simp only [akin] at h
      simp only [lt, toPD]
      rw [dataLt_tuple]
      exact ltL_pd xs ys h
    | _ => simp [akin] at h
  | .non, _, h => by cases h
  | .bl _, _, h => by cases h
  | .lst _, _, h => by cases h
  | .scr _, _, h => by cases h
  | .dic _ _, _, h => by cases h
  | .ref _, _, h => by cases h
theorem ltL_pd : ∀ (x y : List PV), akinL x y = true → PyProof.Rows.lexLt itemOrd (keyToksAll (toPDs x)) (keyToksAll (toPDs y)) = ltL x y
  | [], [], _ => by simp [toPDs, ltL, PyProof.Rows.lex_irrefl]
  | [], y :: ys, _ => by simp only [toPDs, ltL, keyToksAll]; rfl
  | x :: xs, [], _ => by simp only [toPDs, ltL, keyToksAll]; rfl
  | x :: xs, y :: ys, h => by
    simp only [akinL, Bool.and_eq_true] at h
    simp only [toPDs, ltL]
    rw [dataLt_cons (akin_pd x y h.1), same_pd x y h.1, ltL_pd xs ys h.2, lt_pd x y h.1]
end
section
variable {Γ : Pg} {n : Nat} {c fa : Nat → Addr} {G : Fr} {N : List Str} {sc : Scope} {X : Cx} {κ : Cn}
variable {a b e d : Expr} {da db dd : DE} {pos p : Pos} {es : List Expr} {ds : DEs}
def rOrd (K : PySem.W.Frag) (m : Nat) (f : PyData → PyData → Bool) : R2 := fun x y H Q => ∃ d e, Dp K H x d ∧ Dp K H y e ∧ alike d e = true ∧ d ≠ .none ∧ d.depth ≤ m ∧ Q (.bl (f d e)) H
theorem op_ltD {m : Nat} (hu : X.A.units + m < cLine) : OpR X (compareOp .Lt) (rOrd X.K m dataLt) := by
  intro pins s σ H x y v u Q I rx ry h
  obtain ⟨d, e, hd, he, al, nn, dp, q⟩ := h
  obtain ⟨as, r1⟩ := Dp.reads I d x v hd rx
  obtain ⟨bs, r2⟩ := Dp.reads I e y u he ry
  have R := PySem.W.rcLt_alike d e X.A s v u as bs r1 r2 al nn (by have : min d.depth e.depth ≤ d.depth := Nat.min_le_left _ _; omega)
  exact R _ _ _ _ ⟨.bl _, H, I, rfl, q⟩
theorem op_leD {m : Nat} (hu : X.A.units + m < cLine) : OpR X (compareOp .LtE) (rOrd X.K m fun d e => !dataLt e d) := by
  intro pins s σ H x y v u Q I rx ry h
  obtain ⟨d, e, hd, he, al, nn, dp, q⟩ := h
  obtain ⟨as, r1⟩ := Dp.reads I d x v hd rx
  obtain ⟨bs, r2⟩ := Dp.reads I e y u he ry
  have R := PySem.W.rcLe_alike d e X.A s v u as bs r1 r2 al nn (by have : min d.depth e.depth ≤ d.depth := Nat.min_le_left _ _; omega)
  exact R _ _ _ _ ⟨.bl _, H, I, rfl, q⟩
mutual
theorem akin_comm : ∀ (x y : PV), akin x y = akin y x
  | .int _, y => by cases y <;> simp [akin]
  | .str _, y => by cases y <;> simp [akin]
  | .tup xs, y => by
    cases y with
    | tup ys => simp only [akin]; exact akinL_comm xs ys
    | _ => simp [akin]
  | .non, y => by cases y <;> simp [akin]
  | .bl _, y => by cases y <;> simp [akin]
  | .lst _, y => by cases y <;> simp [akin]
  | .scr _, y => by cases y <;> simp [akin]
  | .dic _ _, y => by cases y <;> simp [akin]
  | .ref _, y => by cases y <;> simp [akin]
theorem akinL_comm : ∀ (x y : List PV), akinL x y = akinL y x
  | [], [] => rfl
  | [], _ :: _ => by simp [akinL]
  | x :: xs, [] => by simp [akinL]
  | x :: xs, y :: ys => by simp only [akinL]; rw [akin_comm x y, akinL_comm xs ys]
end
theorem o_lt : Op2 Γ N sc (compareOp .Lt) O.lt := fun n c fa G X g => by
  refine ⟨_, op_ltD (m := 64) g.u64, ?_⟩
  intro ρ st H p q v x y Q A rp rq ef k
  unfold O.lt at ef
  split at ef
  · rename_i i j
    cases ef
    rw [rr_int rp, rr_int rq]
    refine ⟨_, _, .int i, .int j, rfl, by simp, by simp [PyData.depth], now A k ?_⟩
    simp only [RV, dataLt_int]
  · rename_i xs ys
    split at ef
    · rename_i hf
      cases ef
      simp only [Bool.and_eq_true] at hf
      have f1 : flat 60 (.tup xs) = true := by simp only [flat]; exact hf.1.1
      have f2 : flat 60 (.tup ys) = true := by simp only [flat]; exact hf.1.2
      have ak : akin (.tup xs) (.tup ys) = true := by simp only [akin]; exact hf.2
      refine ⟨_, _, dp_rr f1 rp, dp_rr f2 rq, akin_pd _ _ ak, by simp [toPD], by have := (shaped_pd 60 _ f1).2; omega, now A k ?_⟩
      simp only [RV, lt_pd _ _ ak, lt]
    · cases ef
  · cases ef
theorem o_le : Op2 Γ N sc (compareOp .LtE) O.le := fun n c fa G X g => by
  refine ⟨_, op_leD (m := 64) g.u64, ?_⟩
  intro ρ st H p q v x y Q A rp rq ef k
  unfold O.le at ef
  split at ef
  · rename_i i j
    cases ef
    rw [rr_int rp, rr_int rq]
    refine ⟨_, _, .int i, .int j, rfl, by simp, by simp [PyData.depth], now A k ?_⟩
    simp only [RV, dataLt_int]
    congr 1
    by_cases h : i ≤ j
    · simp [h, Int.not_lt.mpr h]
    · simp [h, Int.not_le.mp h]
  · rename_i xs ys
    split at ef
    · rename_i hf
      cases ef
      simp only [Bool.and_eq_true] at hf
      have f1 : flat 60 (.tup xs) = true := by simp only [flat]; exact hf.1.1
      have f2 : flat 60 (.tup ys) = true := by simp only [flat]; exact hf.1.2
      have ak : akin (.tup ys) (.tup xs) = true := by simp only [akin]; exact hf.2
      refine ⟨_, _, dp_rr f1 rp, dp_rr f2 rq, akin_pd _ _ (by rw [akin_comm]; exact ak), by simp [toPD], by have := (shaped_pd 60 _ f1).2; omega, now A k ?_⟩
      simp only [RV, lt_pd _ _ ak, lt]
    · cases ef
  · cases ef


end
end Dn


namespace Dn
open PySem L2
open PySem.W (alike alikeAll dataLt dataLe EachIs AllAlike Sortable SortsAt copyHeap sortingHeap copyHeap_at sorting_copy_old list_sort_vals sortVals sortVals_data sortVals_length each_map bound_map sort_maps)
open PyProof.Rows (sortedAll collect_list entry_proto_collect' entry_list_iadd' listItems_at listUpdate_at get?_update_seq seqObj size_push' kind_sorted plain_sorted entry_sorted args_sorted1 args_list_sort slot_list_sort entry_list_sort)
section
variable {prog : Program} {w : World} {A : Around} {E : Value → Shared → Prop} {s : Shared}
end
section
variable {Γ : Pg} {n : Nat} {c fa : Nat → Addr} {G : Fr} {N : List Str} {sc : Scope} {X : Cx} {κ : Cn} {cs : CS}
variable {a b e d : Expr} {da db dd : DE} {pos p : Pos} {es : List Expr} {ds : DEs}
end
end Dn


namespace Dn
open PySem L2
section
variable {prog : Program} {w : World} {A : Around} {E : Value → Shared → Prop} {s : Shared}
structure ZOn (h : Heap) (zz pI pO j1 j2 t1 t2 : Addr) (k : Nat) (lo : Addr) : Prop where
  zip : (k = 0 ∧ IsZip h zz pI pO .none ∧ ∃ x y, IsPair h pO x y) ∨ ∃ (T : Addr) (f : Bool) (oT : Obj), IsZipHeld h zz pI pO T f ∧ h.get? T = some oT ∧ lo < T
  ins : IsPair h pI (.ref j1) (.ref j2)
  i1 : h.IsTupleIter j1 t1 k
  i2 : h.IsTupleIter j2 t2 k
  lt : zz ≤ lo ∧ pI ≤ lo ∧ pO ≤ lo ∧ j1 ≤ lo ∧ j2 ≤ lo
theorem next_held {zz pI pO T j1 j2 t1 t2 : Addr} {f : Bool} {oT : Obj} {k1 k2 : Nat} {xs ys : Array Value} {x y : Value} {Q : Value → Shared → Prop} (D : ZipApart zz pI pO j1 j2 t1 t2)
    (hz : IsZipHeld s.heap zz pI pO T f) (eT : s.heap.get? T = some oT) (eI : IsPair s.heap pI (.ref j1) (.ref j2))
    (e1 : s.heap.IsTupleIter j1 t1 k1) (e2 : s.heap.IsTupleIter j2 t2 k2) (el1 : s.heap.IsTuple t1 xs) (el2 : s.heap.IsTuple t2 ys) (hx : xs[k1]? = some x) (hy : ys[k2]? = some y)
    (hQ : ∀ h', IsZipHeld h' zz pI pO T true → h'.IsTupleIter j1 t1 (k1 + 1) → h'.IsTupleIter j2 t2 (k2 + 1) → IsPair h' s.heap.objs.size x y → h'.objs.size = s.heap.objs.size + 1 →
      (∀ c o, c ≠ zz → c ≠ j1 → c ≠ j2 → s.heap.get? c = some o → h'.get? c = some o) → Q (.ref s.heap.objs.size) { s with heap := h' }) :
    wpAny (model prog w) A (Builtin.«zip.__next__» ⟨[.ref zz], []⟩) (fun fin s' => ∃ v, fin = .done (.ret v) ∧ Q v s') E s := by
  show wpAny _ _ (field (.ref zz) 2 >>= _) _ _ _
  refine wpAny_bind (wpAny_field hz rfl (x := Value.bool false) rfl ?_)
  show wpAny _ _ (field (.ref zz) 3 >>= _) _ _ _
  refine wpAny_bind (wpAny_field hz rfl (x := .ref pI) rfl ?_)
  refine wpAny_bind (wpAny_seqItems eI rfl ?_)
  show wpAny _ _ (Builtin.SmallTypes.ownedTupleIsFree (.ref zz) >>= _) _ _ _
  refine wpAny_bind (wpAny_tupleHeld_zip hz eT fun g1 z1 b1 => ?_)
  rw [if_neg Bool.false_ne_true]
  refine wpAny_bind ?_
  rw [← Array.forIn_toList]
  rw [show (#[Value.ref j1, Value.ref j2] : Array Value).toList = [.ref j1, .ref j2] from rfl, List.forIn_cons]
  refine wpAny_bind (wpAny_bind (wpAny_holding ?_))
  show wpAny _ _ (Builtin.SmallTypes.nextOf (.ref j1) >>= _) _ _ _
  refine wpAny_bind (RZ.nextOf_tuple_item (s := { s with heap := g1 }) (e1.extBut b1.extBut D.i1z) (el1.extBut b1.extBut D.l1z) hx fun g2 q2 b2 => wpAny_pure ?_)
  refine wpAny_pure ?_
  show wpAny _ _ (forIn [Value.ref j2] _ _) _ _ _
  rw [List.forIn_cons]
  refine wpAny_bind (wpAny_bind (wpAny_holding ?_))
  show wpAny _ _ (Builtin.SmallTypes.nextOf (.ref j2) >>= _) _ _ _
  refine wpAny_bind (RZ.nextOf_tuple_item (s := { s with heap := g2 }) ((e2.extBut b1.extBut D.i2z).extBut b2.extBut D.i12.symm) ((el2.extBut b1.extBut D.l2z).extBut b2.extBut D.l2i1) hy fun g3 q3 b3 => wpAny_pure ?_)
  refine wpAny_pure ?_
  show wpAny _ _ (forIn ([] : List Value) _ _) _ _ _
  rw [List.forIn_nil]
  refine wpAny_pure ?_
  show wpAny _ _ (newTuple [x, y] >>= _) _ _ _
  refine wpAny_bind (wpAny_newTuple ?_)
  have sz : g3.objs.size = s.heap.objs.size := by rw [b3.1, b2.1, b1.1]
  have z3 : IsZipHeld g3 zz pI pO T true := b3.extBut _ _ D.i2z.symm (b2.extBut _ _ D.i1z.symm z1)
  have kp : ∀ c o, c ≠ zz → c ≠ j1 → c ≠ j2 → s.heap.get? c = some o → g3.get? c = some o := fun c o c1 c2 c3 e => b3.extBut _ _ c3 (b2.extBut _ _ c2 (b1.extBut _ _ c1 e))
  have q1 : g3.IsTupleIter j1 t1 (k1 + 1) := q2.extBut b3.extBut D.i12
  refine wpAny_pure ⟨_, rfl, ?_⟩
  show Q (.ref g3.objs.size) _
  have hp : IsPair (g3.push { cls := .type "tuple", data := .seq #[x, y] }) g3.objs.size x y := Heap.get?_push_size _ rfl
  have hn : (g3.push { cls := .type "tuple", data := .seq #[x, y] }).objs.size = g3.objs.size + 1 := Heap.size_push ..
  rw [sz] at hp hn ⊢
  exact hQ _ (Heap.get?_push_of_some _ z3) (q1.at fun o e => Heap.get?_push_of_some _ e) (q3.at fun o e => Heap.get?_push_of_some _ e) hp hn fun c o c1 c2 c3 e => Heap.get?_push_of_some _ (kp c o c1 c2 c3 e)
theorem end_held {zz pI pO T j1 j2 t1 t2 : Addr} {f : Bool} {oT : Obj} {k1 k2 : Nat} {xs ys : Array Value} {Q : Fin → Shared → Prop} (hh : A.handled = none) (D : ZipApart zz pI pO j1 j2 t1 t2)
    (hz : IsZipHeld s.heap zz pI pO T f) (eT : s.heap.get? T = some oT) (eI : IsPair s.heap pI (.ref j1) (.ref j2))
    (e1 : s.heap.IsTupleIter j1 t1 k1) (e2 : s.heap.IsTupleIter j2 t2 k2) (el1 : s.heap.IsTuple t1 xs) (el2 : s.heap.IsTuple t2 ys) (hend : xs[k1]? = none ∨ ys[k2]? = none)
    (hE : ∀ h' e, (∀ c o, c ≠ zz → c ≠ j1 → c ≠ j2 → s.heap.get? c = some o → h'.get? c = some o) → (∃ o, h'.get? e = some o ∧ o.cls = .type "StopIteration") → E (.ref e) { s with heap := h' }) :
    wpAny (model prog w) A (Builtin.«zip.__next__» ⟨[.ref zz], []⟩) Q E s := by
  show wpAny _ _ (field (.ref zz) 2 >>= _) _ _ _
  refine wpAny_bind (wpAny_field hz rfl (x := Value.bool false) rfl ?_)
  show wpAny _ _ (field (.ref zz) 3 >>= _) _ _ _
  refine wpAny_bind (wpAny_field hz rfl (x := .ref pI) rfl ?_)
  refine wpAny_bind (wpAny_seqItems eI rfl ?_)
  show wpAny _ _ (Builtin.SmallTypes.ownedTupleIsFree (.ref zz) >>= _) _ _ _
  refine wpAny_bind (wpAny_tupleHeld_zip hz eT fun g1 z1 b1 => ?_)
  rw [if_neg Bool.false_ne_true]
  refine wpAny_bind ?_
  rw [← Array.forIn_toList]
  rw [show (#[Value.ref j1, Value.ref j2] : Array Value).toList = [.ref j1, .ref j2] from rfl, List.forIn_cons]
  refine wpAny_bind (wpAny_bind (wpAny_holding ?_))
  show wpAny _ _ (Builtin.SmallTypes.nextOf (.ref j1) >>= _) _ _ _
  cases hx : xs[k1]? with
  | none =>
    refine wpAny_bind (RZ.nextOf_tuple_end (s := { s with heap := g1 }) hh (e1.extBut b1.extBut D.i1z) (el1.extBut b1.extBut D.l1z) hx fun g2 e b2 he => ?_)
    exact hE g2 e (fun c o c1 c2 _ q => b2 _ _ c2 (b1.extBut _ _ c1 q)) he
  | some x =>
    have hy : ys[k2]? = none := hend.resolve_left (by rw [hx]; simp)
    refine wpAny_bind (RZ.nextOf_tuple_item (s := { s with heap := g1 }) (e1.extBut b1.extBut D.i1z) (el1.extBut b1.extBut D.l1z) hx fun g2 q2 b2 => wpAny_pure ?_)
    refine wpAny_pure ?_
    show wpAny _ _ (forIn [Value.ref j2] _ _) _ _ _
    rw [List.forIn_cons]
    refine wpAny_bind (wpAny_bind (wpAny_holding ?_))
    show wpAny _ _ (Builtin.SmallTypes.nextOf (.ref j2) >>= _) _ _ _
    refine wpAny_bind (RZ.nextOf_tuple_end (s := { s with heap := g2 }) hh ((e2.extBut b1.extBut D.i2z).extBut b2.extBut D.i12.symm) ((el2.extBut b1.extBut D.l2z).extBut b2.extBut D.l2i1) hy fun g3 e b3 he => ?_)
    exact hE g3 e (fun c o c1 c2 c3 q => b3 _ _ c3 (b2.extBut _ _ c2 (b1.extBut _ _ c1 q))) he
theorem zon_item {zz pI pO j1 j2 t1 t2 lo : Addr} {k : Nat} {xs ys : Array Value} {x y : Value} {Q : Option Value → Shared → Prop} (D : ZipApart zz pI pO j1 j2 t1 t2) (Z : ZOn s.heap zz pI pO j1 j2 t1 t2 k lo) (el1 : s.heap.IsTuple t1 xs) (el2 : s.heap.IsTuple t2 ys) (hx : xs[k]? = some x) (hy : ys[k]? = some y) (hlo : lo < s.heap.objs.size)
    (hQ : ∀ h', ZOn h' zz pI pO j1 j2 t1 t2 (k + 1) lo → IsPair h' s.heap.objs.size x y → h'.objs.size = s.heap.objs.size + 1 → (∀ c o, c ≠ zz → c ≠ pO → c ≠ j1 → c ≠ j2 → s.heap.get? c = some o → h'.get? c = some o) → Q (some (.ref s.heap.objs.size)) { s with heap := h' }) :
    wpAny (model prog w) A (pyNext (.ref zz)) Q E s := by
  obtain ⟨l1, l2, l3, l4, l5⟩ := Z.lt
  rcases Z.zip with ⟨e, hz, a, b, hO⟩ | ⟨T, f, oT, hz, eT, hT⟩
  · refine RZ.pyNext_zipT_item D hz Z.ins hO Z.i1 Z.i2 el1 el2 hx hy fun h' z' _ q1 q2 hp hn kp => ?_
    exact hQ h' ⟨.inr ⟨s.heap.objs.size, false, _, z', hp, hlo⟩, kp _ _ D.TIz D.TITO D.TIi1 D.TIi2 Z.ins, q1, q2, Z.lt⟩ hp hn kp
  · have ty : s.TypeIs (.ref zz) "zip" := ⟨_, hz, rfl⟩
    unfold pyNext
    refine wpAny_bind (wpAny_attempt (wpAny_callSpecial?_slot (name := Str.ofString "__next__") ty F.slot_zip_next (wpAny_call_entry F.slot_zip_next ty F.entry_zip_next
      (next_held D hz eT Z.ins Z.i1 Z.i2 el1 el2 hx hy fun h' z' q1 q2 hp hn kp => wpAny_pure ?_) (F.args_zip_next_1 _))))
    refine hQ h' ⟨.inr ⟨T, true, oT, z', kp T oT (Nat.ne_of_gt (Nat.lt_of_le_of_lt l1 hT)) (Nat.ne_of_gt (Nat.lt_of_le_of_lt l4 hT)) (Nat.ne_of_gt (Nat.lt_of_le_of_lt l5 hT)) eT, hT⟩, kp _ _ D.TIz D.TIi1 D.TIi2 Z.ins, q1, q2, Z.lt⟩ hp hn fun c o c1 _ c3 c4 e => kp c o c1 c3 c4 e
theorem zon_end {zz pI pO j1 j2 t1 t2 lo : Addr} {k : Nat} {xs ys : Array Value} {Q : Option Value → Shared → Prop} (hh : A.handled = none) (D : ZipApart zz pI pO j1 j2 t1 t2) (Z : ZOn s.heap zz pI pO j1 j2 t1 t2 k lo) (el1 : s.heap.IsTuple t1 xs) (el2 : s.heap.IsTuple t2 ys) (hend : xs[k]? = none ∨ ys[k]? = none)
    (hQ : ∀ h', (∀ c o, c ≠ zz → c ≠ pO → c ≠ j1 → c ≠ j2 → s.heap.get? c = some o → h'.get? c = some o) → Q none { s with heap := h' }) : wpAny (model prog w) A (pyNext (.ref zz)) Q E s := by
  rcases Z.zip with ⟨e, hz, a, b, hO⟩ | ⟨T, f, oT, hz, eT, hT⟩
  · exact RZ.pyNext_zipT_end hh D hz Z.ins hO Z.i1 Z.i2 el1 el2 hend hQ
  · have ty : s.TypeIs (.ref zz) "zip" := ⟨_, hz, rfl⟩
    unfold pyNext
    refine wpAny_bind (wpAny_attempt (wpAny_callSpecial?_slot (name := Str.ofString "__next__") ty F.slot_zip_next
      (wpAny_call_entry F.slot_zip_next ty F.entry_zip_next (end_held hh D hz eT Z.ins Z.i1 Z.i2 el1 el2 hend fun h' e kp he => ?_) (F.args_zip_next_1 _))))
    obtain ⟨o, ho, hc⟩ := he
    refine wpAny_bind (wpAny_isInstance (T := "StopIteration") (b := true) ⟨o, ho, hc⟩ isSubtype_stop ?_)
    exact wpAny_pure (hQ h' fun c o c1 _ c3 c4 q => kp c o c1 c3 c4 q)
theorem ZOn.keep {h h' : Heap} {zz pI pO j1 j2 t1 t2 lo : Addr} {k : Nat} (Z : ZOn h zz pI pO j1 j2 t1 t2 k lo) {S : Addr} (hS : ∀ b o, b ≠ S → h.get? b = some o → h'.get? b = some o) (hs : S ≠ zz ∧ S ≠ pI ∧ S ≠ pO ∧ S ≠ j1 ∧ S ≠ j2) (hl : S ≤ lo) : ZOn h' zz pI pO j1 j2 t1 t2 k lo := by
  obtain ⟨s1, s2, s3, s4, s5⟩ := hs
  refine ⟨?_, hS _ _ s2.symm Z.ins, Z.i1.at fun o e => hS _ o s4.symm e, Z.i2.at fun o e => hS _ o s5.symm e, Z.lt⟩
  rcases Z.zip with ⟨e, hz, a, b, hO⟩ | ⟨T, f, oT, hz, eT, hT⟩
  · exact .inl ⟨e, hS _ _ s1.symm hz, a, b, hS _ _ s3.symm hO⟩
  · exact .inr ⟨T, f, oT, hS _ _ s1.symm hz, hS _ _ (Nat.ne_of_gt (Nat.lt_of_le_of_lt hl hT)) eT, hT⟩
end

structure ZOut (ps : List (Value × Value)) (lo : Addr) (h : Heap) (as : List Addr) : Prop where
  rise : as.Pairwise (· < ·)
  above : ∀ a ∈ as, lo < a
  pairs : ∀ (j : Nat) (a : Addr), as[j]? = some a → ∃ x y, ps[j]? = some (x, y) ∧ IsPair h a x y
section
variable {prog : Program} {w : World} {A : Around} {s : Shared} {R : Result → Shared → Prop} {zz pI pO j1 j2 t1 t2 lo : Addr} {xs ys : List Value}
theorem zip_at {xs ys : List Value} {i : Nat} (h : i < (xs.zip ys).length) : ∃ x y, xs[i]? = some x ∧ ys[i]? = some y ∧ (xs.zip ys)[i]? = some (x, y) := by
  rw [List.length_zip] at h
  refine ⟨xs[i], ys[i], by simp, by simp, ?_⟩
  rw [List.getElem?_eq_getElem (by rw [List.length_zip]; exact h), List.getElem_zip]
theorem zip_no {xs ys : List Value} {i : Nat} (h : (xs.zip ys).length ≤ i) : xs.toArray[i]? = none ∨ ys.toArray[i]? = none := by
  rw [List.length_zip] at h
  rcases Nat.lt_or_ge i xs.length with q | q
  · exact .inr (by simp; omega)
  · exact .inl (by simp; omega)
theorem zl_loop {S : Addr} (hh : A.handled = none) (D : ZipApart zz pI pO j1 j2 t1 t2) (hSz : S ≠ zz ∧ S ≠ pI ∧ S ≠ pO ∧ S ≠ j1 ∧ S ≠ j2) (hSt : t1 ≠ S ∧ t2 ≠ S) (ht : t1 ≠ zz ∧ t1 ≠ pO ∧ t1 ≠ j1 ∧ t1 ≠ j2 ∧ t2 ≠ zz ∧ t2 ≠ pO ∧ t2 ≠ j1 ∧ t2 ≠ j2)
    (hSl : S ≤ lo) (hn : (xs.zip ys).length ≤ sizeLine) (res : Value) {h1 : Heap}
    (hR : ∀ h' tk acc c as, (∀ b o, b ≠ S → b ≠ zz → b ≠ pO → b ≠ j1 → b ≠ j2 → h1.get? b = some o → h'.get? b = some o) → h'.get? S = some { cls := .type "list", dict := none, data := .seq acc c, slots := #[] } → as.length = (xs.zip ys).length →
      ZOut (xs.zip ys) lo h' as → acc.toList = as.map Value.ref → R (.ok (.ret res)) { s with heap := h', toks := tk }) :
    ∀ (k i : Nat) (h : Heap) (tk c : Nat) (acc : Array Value) (as : List Addr), (xs.zip ys).length - i = k → i ≤ (xs.zip ys).length → ZOn h zz pI pO j1 j2 t1 t2 i lo → h.IsTuple t1 xs.toArray → h.IsTuple t2 ys.toArray →
      (∀ b o, b ≠ S → b ≠ zz → b ≠ pO → b ≠ j1 → b ≠ j2 → h1.get? b = some o → h.get? b = some o) → h.get? S = some { cls := .type "list", dict := none, data := .seq acc c, slots := #[] } → acc.toList = as.map Value.ref → as.length = i →
      ZOut (xs.zip ys) lo h as → lo < h.objs.size → codeAny (model prog w) A (.builtin "list.extend.loop" ⟨[.ref S, .ref zz, res], []⟩) R { s with heap := h, toks := tk } := by
  obtain ⟨s1, s2, s3, s4, s5⟩ := hSz
  obtain ⟨u1, u2, u3, u4, u5, u6, u7, u8⟩ := ht
  intro k
  induction k with
  | zero =>
    intro i h tk c acc as hk hi Z T1 T2 keep eS eacc eas O hlo
    refine codeAny_builtin PySem.F.entry_extend_loop ?_
    rw [Around.under_plainId PySem.F.plain_extend_loop _]
    show wpAny _ A.in1 (pyNext (.ref zz) >>= _) _ _ _
    refine wpAny_bind (zon_end (s := { s with heap := h, toks := tk }) (A := A.in1) hh D Z T1 T2 (zip_no (by omega)) fun h' kp => ?_)
    have above : ∀ a ∈ as, a ≠ zz ∧ a ≠ pO ∧ a ≠ j1 ∧ a ≠ j2 := fun a ha => by
      have q := O.above a ha
      obtain ⟨l1, l2, l3, l4, l5⟩ := Z.lt
      exact ⟨Nat.ne_of_gt (Nat.lt_of_le_of_lt l1 q), Nat.ne_of_gt (Nat.lt_of_le_of_lt l3 q), Nat.ne_of_gt (Nat.lt_of_le_of_lt l4 q), Nat.ne_of_gt (Nat.lt_of_le_of_lt l5 q)⟩
    refine wpAny_pure (hR h' tk acc c as (fun b o b1 b2 b3 b4 b5 e => kp b o b2 b3 b4 b5 (keep b o b1 b2 b3 b4 b5 e)) (kp S _ s1 s3 s4 s5 eS) (by omega) ⟨O.rise, O.above, fun j a hj => ?_⟩ eacc)
    obtain ⟨x, y, e3, e4⟩ := O.pairs j a hj
    obtain ⟨a1, a2, a3, a4⟩ := above a (List.mem_of_getElem? hj)
    exact ⟨x, y, e3, kp a _ a1 a2 a3 a4 e4⟩
  | succ k ih =>
    intro i h tk c acc as hk hi Z T1 T2 keep eS eacc eas O hlo
    have hlt : i < (xs.zip ys).length := by omega
    obtain ⟨x, y, ex, ey, exy⟩ := zip_at hlt
    have hsz : acc.size = i := by rw [← Array.length_toList, eacc, List.length_map, eas]
    obtain ⟨l1, l2, l3, l4, l5⟩ := Z.lt
    have hSlt : S < h.objs.size := Heap.lt_size eS
    refine codeAny_builtin PySem.F.entry_extend_loop ?_
    rw [Around.under_plainId PySem.F.plain_extend_loop _]
    show wpAny _ A.in1 (pyNext (.ref zz) >>= _) _ _ _
    refine wpAny_bind (zon_item (s := { s with heap := h, toks := tk }) D Z T1 T2 (by simpa using ex) (by simpa using ey) hlo fun h' Z' hp hn' kp => ?_)
    dsimp only at hp hn' kp ⊢
    have eS' := kp S _ s1 s3 s4 s5 eS
    have up : ∀ b o, b ≠ S → h'.get? b = some o → (h'.update S (Obj.mapSeq (·.push (Value.ref h.objs.size)))).get? b = some o := fun b o hb e => (Heap.get?_update_other _ _ (Ne.symm hb)).trans e
    show wpAny _ A.in1 (updateSeq S (·.push (Value.ref h.objs.size)) >>= _) _ _ _
    refine wpAny_bind ?_
    have tup : ∀ {t : Addr} {its : Array Value}, t ≠ S → t ≠ zz → t ≠ pO → t ≠ j1 → t ≠ j2 → h.IsTuple t its → (h'.update S (Obj.mapSeq (·.push (Value.ref h.objs.size)))).IsTuple t its := fun {t its} c1 c2 c3 c4 c5 ⟨o, e, z⟩ => ⟨o, up _ _ c1 (kp _ _ c2 c3 c4 c5 e), z⟩
    refine wpAny_updateSeq eS' rfl (wpAny_pure ⟨plainId_quiet PySem.F.plain_extend_loop _, ih (i + 1) _ tk _ (acc.push (Value.ref h.objs.size)) (as ++ [h.objs.size]) (by omega) hlt (Z'.keep (fun b o hb e => up b o hb e) ⟨s1, s2, s3, s4, s5⟩ hSl)
      (tup hSt.1 u1 u2 u3 u4 T1) (tup hSt.2 u5 u6 u7 u8 T2) (fun b o b1 b2 b3 b4 b5 e => up b o b1 (kp b o b2 b3 b4 b5 (keep b o b1 b2 b3 b4 b5 e))) (Heap.get?_update_self _ eS' rfl) (by rw [Array.toList_push, eacc, List.map_append]; rfl) (by rw [List.length_append, eas]; rfl)
      ⟨?_, ?_, ?_⟩ ?_⟩) (by rw [hsz]; omega) (by show (acc.push (Value.ref h.objs.size)).size ≤ sizeLine + 1; rw [Array.size_push, hsz]; omega)
    · refine List.pairwise_append.mpr ⟨O.rise, List.pairwise_singleton _ _, fun a ha b hb => ?_⟩
      rw [List.mem_singleton.mp hb]
      obtain ⟨j, hj⟩ := List.mem_iff_getElem?.mp ha
      obtain ⟨_, _, _, e⟩ := O.pairs j a hj
      exact Heap.lt_size e
    · intro a ha
      rcases List.mem_append.mp ha with ha | ha
      · exact O.above a ha
      · rw [List.mem_singleton.mp ha]; exact hlo
    · intro j b hj
      rcases Nat.lt_trichotomy j as.length with q | q | q
      · rw [List.getElem?_append_left q] at hj
        obtain ⟨x', y', e3, e4⟩ := O.pairs j b hj
        have hb := O.above b (List.mem_of_getElem? hj)
        exact ⟨x', y', e3, up b _ (Nat.ne_of_gt (Nat.lt_of_le_of_lt hSl hb)) (kp b _ (Nat.ne_of_gt (Nat.lt_of_le_of_lt l1 hb)) (Nat.ne_of_gt (Nat.lt_of_le_of_lt l3 hb)) (Nat.ne_of_gt (Nat.lt_of_le_of_lt l4 hb)) (Nat.ne_of_gt (Nat.lt_of_le_of_lt l5 hb)) e4)⟩
      · subst q
        have hb : h.objs.size = b := by simpa using hj
        subst hb
        exact ⟨x, y, by rw [eas]; exact exy, up _ _ (Nat.ne_of_gt hSlt) hp⟩
      · have no : (as ++ [h.objs.size])[j]? = none := List.getElem?_eq_none (by rw [List.length_append, List.length_singleton]; omega)
        rw [no] at hj; cases hj
    · have e : (h'.update S (Obj.mapSeq (·.push (Value.ref h.objs.size)))).get? h.objs.size = _ := up _ _ (Nat.ne_of_gt hSlt) hp
      exact Nat.lt_trans hlo (Heap.lt_size e)
theorem nolen_zip : typeLookup (.type "zip") "__len__" = pure none := by rw [typeLookup_type, builtinLookup_eq_fast]; kernel_rfl
theorem nohint_zip : typeLookup (.type "zip") "__length_hint__" = pure none := by rw [typeLookup_type, builtinLookup_eq_fast]; kernel_rfl
end
section
variable {prog : Program} {w : World} {A : Around} {E : Value → Shared → Prop} {s : Shared} {zz pI pO j1 j2 t1 t2 lo : Addr} {xs ys : List Value}
theorem zl_extend {S : Addr} {R : Result → Shared → Prop} (hh : A.handled = none) (D : ZipApart zz pI pO j1 j2 t1 t2) (hSz : S ≠ zz ∧ S ≠ pI ∧ S ≠ pO ∧ S ≠ j1 ∧ S ≠ j2) (hSt : t1 ≠ S ∧ t2 ≠ S) (ht : t1 ≠ zz ∧ t1 ≠ pO ∧ t1 ≠ j1 ∧ t1 ≠ j2 ∧ t2 ≠ zz ∧ t2 ≠ pO ∧ t2 ≠ j1 ∧ t2 ≠ j2)
    (hn : (xs.zip ys).length ≤ sizeLine) (res : Value) {c0 : Nat} (hlo : S = lo) (hz0 : IsZip s.heap zz pI pO .none) (Z : ZOn s.heap zz pI pO j1 j2 t1 t2 0 lo) (T1 : s.heap.IsTuple t1 xs.toArray) (T2 : s.heap.IsTuple t2 ys.toArray) (eS : s.heap.get? S = some { cls := .type "list", data := .seq #[] c0 })
    (hR : ∀ h' tk acc c as, (∀ b o, b ≠ S → b ≠ zz → b ≠ pO → b ≠ j1 → b ≠ j2 → s.heap.get? b = some o → h'.get? b = some o) → h'.get? S = some { cls := .type "list", dict := none, data := .seq acc c, slots := #[] } → as.length = (xs.zip ys).length →
      ZOut (xs.zip ys) lo h' as → acc.toList = as.map Value.ref → R (.ok (.ret res)) { s with heap := h', toks := tk }) :
    wpAny (model prog w) A.in1 (Builtin.List.listExtendWith (.ref S) (.ref zz) res)
      (fun fin s' => match fin with | .done f => R (.ok f) s' | .again c' => c'.quiet = true ∧ codeAny (model prog w) A c' R s') (fun e s' => R (.error e) s') s := by
  obtain ⟨s1, s2, s3, s4, s5⟩ := id hSz
  have zty : s.TypeIs (.ref zz) "zip" := ⟨_, hz0, rfl⟩
  unfold Builtin.List.listExtendWith
  refine wpAny_bind (wpAny_typeOf (T := "zip") zty ?_)
  have h1 : Builtin.List.listSameRef (.ref S) (.ref zz) = false := by simp [Builtin.List.listSameRef, s1]
  have h2 : (Value.type "zip" == Value.type "list") = false := by decide
  have h3 : (Value.type "zip" == Value.type "tuple") = false := by decide
  rw [h1, h2, h3]
  rw [if_neg (by simp)]
  refine wpAny_bind (wpAny_pyIter_zip hz0 ?_)
  refine wpAny_bind (wpAny_holding ?_)
  unfold Builtin.List.listLengthHint
  refine wpAny_bind (wpAny_specialOf zty nolen_zip ?_)
  show wpAny _ A.in1 (specialOf (Value.ref zz) (Str.ofString "__length_hint__") >>= _) _ _ _
  refine wpAny_bind (wpAny_specialOf zty nohint_zip ?_)
  refine wpAny_pure ?_
  show wpAny _ A.in1 (rule "list.extend.makes-room" >>= fun _ => Builtin.List.listTouch (.ref S) >>= fun _ =>
    again (.builtin "list.extend.loop" ⟨[.ref S, .ref zz, res], []⟩)) _ _ _
  refine wpAny_bind (wpAny_rule ?_)
  refine wpAny_bind ?_
  show wpAny _ A.in1 (updateSeq S (·.push .none) >>= fun _ => updateSeq S (·.pop)) _ _ _
  refine wpAny_bind (wpAny_updateSeq eS rfl ?_)
  have eS2 := Heap.get?_update_self (Obj.mapSeq (·.push Value.none)) eS rfl
  refine wpAny_updateSeq eS2 rfl ?_
  have eS3 := Heap.get?_update_self (Obj.mapSeq (·.pop)) eS2 rfl
  have oth : ∀ b o, b ≠ S → s.heap.get? b = some o → ((s.heap.update S (Obj.mapSeq (·.push Value.none))).update S (Obj.mapSeq (·.pop))).get? b = some o :=
    fun b o hb e => (Heap.get?_update_other _ _ (Ne.symm hb)).trans ((Heap.get?_update_other _ _ (Ne.symm hb)).trans e)
  refine wpAny_pure ⟨plainId_quiet PySem.F.plain_extend_loop _, zl_loop (s := s) (h1 := s.heap) hh D hSz hSt ht (by rw [hlo]; exact Nat.le_refl _) hn res hR _ 0 _ s.toks _ #[] [] rfl (Nat.zero_le _) (Z.keep oth hSz (by rw [hlo]; exact Nat.le_refl _)) ?_ ?_ (fun b o b1 _ _ _ _ e => oth b o b1 e) eS3 rfl rfl
    ⟨List.Pairwise.nil, (fun _ ha => nomatch ha), (fun j a hj => by simp at hj)⟩ (by rw [← hlo]; exact Heap.lt_size eS3)⟩
  · obtain ⟨o, e, z⟩ := T1
    exact ⟨o, oth _ _ hSt.1 e, z⟩
  · obtain ⟨o, e, z⟩ := T2
    exact ⟨o, oth _ _ hSt.2 e, z⟩
theorem zl_call {Q : Value → Shared → Prop} (hh : A.handled = none) (D : ZipApart zz pI pO j1 j2 t1 t2) (hz0 : IsZip s.heap zz pI pO .none) (hO : ∃ x y, IsPair s.heap pO x y) (hI : IsPair s.heap pI (.ref j1) (.ref j2)) (e1 : s.heap.IsTupleIter j1 t1 0) (e2 : s.heap.IsTupleIter j2 t2 0)
    (T1 : s.heap.IsTuple t1 xs.toArray) (T2 : s.heap.IsTuple t2 ys.toArray) (ht : t1 ≠ zz ∧ t1 ≠ pO ∧ t1 ≠ j1 ∧ t1 ≠ j2 ∧ t2 ≠ zz ∧ t2 ≠ pO ∧ t2 ≠ j1 ∧ t2 ≠ j2) (hn : (xs.zip ys).length ≤ sizeLine)
    (hQ : ∀ h' tk acc c as, (∀ b o, b ≠ zz → b ≠ pO → b ≠ j1 → b ≠ j2 → s.heap.get? b = some o → h'.get? b = some o) → h'.get? s.heap.objs.size = some { cls := .type "list", dict := none, data := .seq acc c, slots := #[] } → as.length = (xs.zip ys).length →
      ZOut (xs.zip ys) s.heap.objs.size h' as → acc.toList = as.map Value.ref → Q (.ref s.heap.objs.size) { s with heap := h', toks := tk }) : wpAny (model prog w) A (call (.type "list") [.ref zz]) Q E s := by
  refine callType_codes (Q₁ := fun obj s₁ => obj = .ref s.heap.objs.size ∧ s₁ = { s with heap := s.heap.push { cls := .type "list", data := .seq #[] } }) PySem.F.called_list (PySem.F.typeCall_list_1 _) PySem.F.entry_list_init
    (code_list_new _ ⟨rfl, rfl⟩) fun obj sN hN => ?_
  obtain ⟨rfl, rfl⟩ := hN
  have eS : (s.heap.push { cls := .type "list", data := .seq #[] }).get? s.heap.objs.size = some { cls := .type "list", data := .seq #[] } := Heap.get?_push_size _ rfl
  have lz : zz < s.heap.objs.size := Heap.lt_size hz0
  have lI : pI < s.heap.objs.size := Heap.lt_size hI
  have lO : pO < s.heap.objs.size := by obtain ⟨_, _, h⟩ := hO; exact Heap.lt_size h
  have lj1 : j1 < s.heap.objs.size := by obtain ⟨_, h, _⟩ := e1; exact Heap.lt_size h
  have lj2 : j2 < s.heap.objs.size := by obtain ⟨_, h, _⟩ := e2; exact Heap.lt_size h
  have lt1 : t1 < s.heap.objs.size := by obtain ⟨_, h, _⟩ := T1; exact Heap.lt_size h
  have lt2 : t2 < s.heap.objs.size := by obtain ⟨_, h, _⟩ := T2; exact Heap.lt_size h
  refine ⟨⟨_, eS, rfl⟩, PySem.F.args_list_init_2 _ _, ?_⟩
  show wpAny _ _ (do
    let old ← Builtin.List.listItems (.ref s.heap.objs.size)
    Builtin.List.listUpdate (.ref s.heap.objs.size) (fun _ => #[])
    letGo old.toList.reverse
    Builtin.List.listExtendWith (.ref s.heap.objs.size) (.ref zz) .none) _ _ _
  refine wpAny_bind ?_
  unfold Builtin.List.listItems
  refine wpAny_bind (wpAny_seqItems eS rfl (wpAny_pure ?_))
  show wpAny _ _ (updateSeq s.heap.objs.size (fun _ => #[]) >>= fun _ => letGo (#[] : Array Value).toList.reverse >>= fun _ => Builtin.List.listExtendWith (.ref s.heap.objs.size) (.ref zz) .none) _ _ _
  refine wpAny_bind (wpAny_updateSeq eS rfl ?_)
  have eS2 := Heap.get?_update_self (Obj.mapSeq (fun _ => (#[] : Array Value))) eS rfl
  have oth : ∀ b o, s.heap.get? b = some o → ((s.heap.push { cls := .type "list", data := .seq #[] }).update s.heap.objs.size (Obj.mapSeq (fun _ => (#[] : Array Value)))).get? b = some o :=
    fun b o e => (Heap.get?_update_other _ _ (Nat.ne_of_gt (Heap.lt_size e))).trans (Heap.get?_push_of_some _ e)
  refine wpAny_bind (wpAny_letGo ?_)
  obtain ⟨x0, y0, hO⟩ := hO
  refine zl_extend (lo := s.heap.objs.size) (A := A.in1) hh D ⟨Nat.ne_of_gt lz, Nat.ne_of_gt lI, Nat.ne_of_gt lO, Nat.ne_of_gt lj1, Nat.ne_of_gt lj2⟩ ⟨Nat.ne_of_lt lt1, Nat.ne_of_lt lt2⟩ ht hn .none rfl (oth _ _ hz0)
    ⟨.inl ⟨rfl, oth _ _ hz0, x0, y0, oth _ _ hO⟩, oth _ _ hI, e1.at fun o e => oth _ o e, e2.at fun o e => oth _ o e, ⟨Nat.le_of_lt lz, Nat.le_of_lt lI, Nat.le_of_lt lO, Nat.le_of_lt lj1, Nat.le_of_lt lj2⟩⟩
    (let ⟨o, e, z⟩ := T1; ⟨o, oth _ _ e, z⟩) (let ⟨o, e, z⟩ := T2; ⟨o, oth _ _ e, z⟩) eS2 fun h' tk acc c as kp eS3 el O ea => ?_
  exact ⟨rfl, hQ h' tk acc c as (fun b o b2 b3 b4 b5 e => kp b o (Nat.ne_of_lt (Heap.lt_size e)) b2 b3 b4 b5 (oth b o e)) eS3 el O ea⟩
end

def putP (f : Addr → Obj) : Hp → List Addr → List (V × V) → Hp
  | H, a :: as, p :: ps => putP f (upd H a (.frz (f a) (.tup [p.1, p.2]))) as ps
  | H, _, _ => H
theorem putP_off {f : Addr → Obj} {b : Addr} : ∀ (as : List Addr) (ps : List (V × V)) (H : Hp), b ∉ as → putP f H as ps b = H b
  | [], _, _, _ => rfl
  | _ :: _, [], _, _ => rfl
  | a :: as, p :: ps, H, h => by
    show putP f (upd H a _) as ps b = H b
    rw [putP_off as ps _ fun z => h (List.mem_cons_of_mem _ z), upd_ne fun z => h (by rw [z]; exact List.mem_cons_self)]
theorem putP_at {f : Addr → Obj} : ∀ (as : List Addr) (ps : List (V × V)) (H : Hp), as.Nodup → ∀ (i : Nat) (a : Addr) (p : V × V), as[i]? = some a → ps[i]? = some p → putP f H as ps a = some (.frz (f a) (.tup [p.1, p.2]))
  | [], _, _, _, i, a, p, h, _ => by simp at h
  | _ :: _, [], _, _, i, a, p, _, h => by simp at h
  | a :: as, p :: ps, H, nd, 0, b, q, h1, h2 => by
    simp at h1 h2
    subst h1; subst h2
    show putP f (upd H a _) as ps a = _
    rw [putP_off as ps _ (List.nodup_cons.mp nd).1, upd_same]
  | a :: as, p :: ps, H, nd, i + 1, b, q, h1, h2 => putP_at as ps _ (List.nodup_cons.mp nd).2 i b q (by simpa using h1) (by simpa using h2)
theorem ext_putP {f : Addr → Obj} {ρ : List Addr} : ∀ (as : List Addr) (ps : List (V × V)) (H : Hp), as.Nodup → (∀ a ∈ as, H a = none) → Ext ρ H ρ (putP f H as ps)
  | [], _, _, _, _ => Ext.refl
  | _ :: _, [], _, _, _ => Ext.refl
  | a :: as, p :: ps, H, nd, h => (ext_new (h a List.mem_cons_self)).trans (ext_putP as ps _ (List.nodup_cons.mp nd).2 fun b hb => by
    rw [upd_ne fun z => (List.nodup_cons.mp nd).1 (by rw [← z]; exact hb)]
    exact h b (List.mem_cons_of_mem _ hb))
section
variable {X : Cx} {pins : List (Addr × Obj)} {σ : L2.St} {H : Hp} {s : Shared}
theorem pairs_laid {h' : Heap} {tk c : Nat} {xs ys : List V} {us ws : List Value} {acc : Array Value} {as : List Addr} (I : Inv X pins σ H s) (rx : Vals xs us) (ry : Vals ys ws) (hz : (us.zip ws).length ≤ sizeLine) (kp : ∀ b o, s.heap.get? b = some o → h'.get? b = some o)
    {S : Addr} (hS : s.heap.objs.size ≤ S) (eS : h'.get? S = some { cls := .type "list", dict := none, data := .seq acc c, slots := #[] }) (hl : as.length = (us.zip ws).length) (O : ZOut (us.zip ws) S h' as) (hacc : acc.toList = as.map Value.ref) :
    ∃ f : Addr → Obj, (∀ t ∈ as, (f t).dict = none) ∧ Inv X pins σ (upd (putP f H as (xs.zip ys)) S (.lst (as.map V.ref))) { s with heap := h', toks := tk } ∧ as.Nodup ∧ (∀ t ∈ as, H t = none) ∧ S ∉ as ∧ H S = none := by
  have nd : as.Nodup := List.Pairwise.imp (fun {a b} (h : a < b) => Nat.ne_of_lt h) O.rise
  have nS : S ∉ as := fun z => Nat.lt_irrefl _ (O.above _ z)
  have new : ∀ t ∈ as, H t = none := fun t ht => I.hok.fresh (Nat.le_trans hS (Nat.le_of_lt (O.above t ht)))
  have newS : H S = none := I.hok.fresh hS
  have ed : ∀ t ∈ as, ∃ x y, IsPair h' t x y := fun t ht => by
    obtain ⟨j, ej⟩ := List.mem_iff_getElem?.mp ht
    obtain ⟨x, y, _, e⟩ := O.pairs j t ej
    exact ⟨x, y, e⟩
  generalize hf : (fun t => (h'.get? t).getD { cls := .none, data := .fields #[] } : Addr → Obj) = f
  have fa : ∀ t x y, IsPair h' t x y → f t = { cls := .type "tuple", data := .seq #[x, y] } := fun t x y e => by
    rw [← hf]
    show (h'.get? t).getD _ = _
    rw [show h'.get? t = _ from e]
    rfl
  refine ⟨f, fun t ht => ?_, ?_, nd, new, nS, newS⟩
  · obtain ⟨x, y, e⟩ := ed t ht
    rw [fa t x y e]
  have low : ∀ b o, s.heap.get? b = some o → b ∉ as ∧ b ≠ S := fun b o e => ⟨fun z => absurd (Heap.lt_size e) (Nat.not_lt.mpr (Nat.le_trans hS (Nat.le_of_lt (O.above b z)))), fun z => absurd (Heap.lt_size e) (Nat.not_lt.mpr (by rw [z]; exact hS))⟩
  have off : ∀ b, b ∉ as → b ≠ S → upd (putP f H as (xs.zip ys)) S (.lst (as.map V.ref)) b = H b := fun b q1 q2 => by rw [upd_ne q2, putP_off as _ _ q1]
  have up : ∀ b u, H b = some u → upd (putP f H as (xs.zip ys)) S (.lst (as.map V.ref)) b = some u := fun b u e => by
    rw [off b (fun z => by rw [new b z] at e; cases e) (fun z => by rw [z, newS] at e; cases e)]
    exact e
  refine I.call' (ch := []) rfl ⟨fun b o q _ _ _ => kp b o q, fun b o q _ _ _ => ⟨o.slots, kp b o q⟩, fun b o q n _ => ?_, fun b o q _ => ⟨o, kp b o q⟩, fun b xs q => up b _ q, fun b o u q => up b _ q, fun b ps q => ⟨#[], by rw [up b _ q]; simp⟩⟩ (fun b u q => ?_) I.bare fun b z => by simp at z
  · obtain ⟨z1, z2⟩ := low b o q
    rw [off b z1 z2]
    exact n
  · by_cases hb2 : b = S
    · subst hb2
      rw [upd_same] at q
      cases q
      refine ⟨by rw [List.length_map, hl]; exact hz, acc.toList, c, by rw [hacc]; exact LiI.vals_refs as, ?_⟩
      rw [Array.toArray_toList]
      exact eS
    · by_cases hb : b ∈ as
      · obtain ⟨j, ej⟩ := List.mem_iff_getElem?.mp hb
        obtain ⟨x, y, e1, e2⟩ := O.pairs j b ej
        have hjl : j < (us.zip ws).length := (List.getElem?_eq_some_iff.mp e1).1
        rw [List.length_zip] at hjl
        have lx := rx.length
        have ly := ry.length
        have hx : xs[j]? = some xs[j] := by simp
        have hy : ys[j]? = some ys[j] := by simp
        obtain ⟨x', ex, rxx⟩ := rx.get hx
        obtain ⟨y', ey, ryy⟩ := ry.get hy
        have exy : (us.zip ws)[j]? = some (x', y') := by
          rw [List.getElem?_zip_eq_some]
          exact ⟨ex, ey⟩
        rw [exy] at e1
        cases e1
        have ez : (xs.zip ys)[j]? = some (xs[j], ys[j]) := by
          rw [List.getElem?_zip_eq_some]
          exact ⟨hx, hy⟩
        rw [upd_ne hb2, putP_at as _ _ nd j b _ ej ez] at q
        cases q
        exact ⟨by rw [fa _ _ _ e2]; exact e2, by show 2 ≤ sizeLine; decide, [_, _], .cons rxx (.cons ryy .nil), ⟨_, e2, rfl, _, rfl⟩⟩
      · rw [off b hb hb2] at q
        exact (I.hok b u q).stay (fun d v _ y => kp d v y) (fun d y => up d _ y) fun d xs y => up d _ y
def tZipL (K : PySem.W.Frag) (ta : TA) : TE := fun σ H Q => ta σ H fun vs H1 => ∃ a b xs ys, vs = [.ref a, .ref b] ∧ SqT K H1 a xs ∧ SqT K H1 b ys ∧ ∀ f as S, (∀ t ∈ as, (f t).dict = none) → as.length = (xs.zip ys).length → as.Nodup → (∀ t ∈ as, H1 t = none) → S ∉ as → H1 S = none → Q (.ref S) (upd (putP f H1 as (xs.zip ys)) S (.lst (as.map V.ref)))
theorem pe_zipL {e1 e2 : Expr} {ta : TA} {p q pos pos2 : Pos} (hc : X.calm = true) (hg : Gl X ("list" : Str)) (hm : X.mg ("list" : Str) = none) (hgz : Gl X ("zip" : Str)) (hmz : X.mg ("zip" : Str) = none) (ha : PA X [e1, e2] ta) (hs2 : starEach [e1, e2] X.env = (false, eval e1 X.env) :: starEach [e2] X.env) (hpl : (backTo pos2 (starEach [e2] X.env)).any (·.1) = false)
    (hs : starEach [.Call (.Name ("zip" : Str) q) [e1, e2] [] pos2] X.env = (false, eval (.Call (.Name ("zip" : Str) q) [e1, e2] [] pos2) X.env) :: starEach [] X.env) :
    PE X (.Call (.Name ("list" : Str) p) [.Call (.Name ("zip" : Str) q) [e1, e2] [] pos2] [] pos) (tZipL X.K ta) := by
  refine ⟨fun pins s σ H Q I h => ?_⟩
  refine wpAny_Call_Name_kw (ld_blt I hg hm (u := .type "list") (by decide +kernel) ?_)
  refine PyProof.Rows.callWith_type1 ?_ hs rfl
  rw [hs]
  show wpAny _ _ (spliced ((false, eval (.Call (.Name ("zip" : Str) q) [e1, e2] [] pos2) X.env) :: backTo pos (starEach [] X.env))) _ _ s
  refine Calls.spliced_cons ?_
  refine PyProof.Rows.Call_ (ld_blt I hgz hmz PyProof.Rows.boot_zip (PyProof.Rows.callWith_type1 (thn (ha.run pos2 pins s σ H _ I h) fun us sA hA => ?_) hs2 hpl))
  obtain ⟨vs, H1, I1, r1, a, b, xs, ys, ev, hx, hy, hq⟩ := hA
  subst ev
  cases r1 with
  | cons r rr => cases rr with
    | cons r' rr =>
      cases rr
      cases r
      cases r'
      obtain ⟨its, rx, tx, zx⟩ := I1.tuple hx
      obtain ⟨its2, ry, ty, zy⟩ := I1.tuple hy
      obtain ⟨oa, ea, _⟩ := id tx
      obtain ⟨ob, eb, _⟩ := id ty
      have la := Heap.lt_size ea
      have lb := Heap.lt_size eb
      refine RZ.call_zipT tx ty fun h' hz hTI hTO i1 i2 hsz kp => ?_
      refine Calls.spliced_nil ?_
      have I2 : Inv X pins σ H1 { sA with heap := h' } := I1.kept (t' := sA.toks) kp
      refine zl_call (s := { sA with heap := h' }) (I1.ok.hd hc) (PySem.W.ktu_apart sA.heap.objs.size a b la lb) hz ⟨_, _, hTO⟩ hTI i1 i2 (let ⟨o, e, z⟩ := tx; ⟨o, kp _ _ e, z⟩) (let ⟨o, e, z⟩ := ty; ⟨o, kp _ _ e, z⟩) ?_ ?_ fun h2 tk acc c as kp2 eS hl O hacc => ?_
      · have up : ∀ {t : Addr} (j : Nat), t < sA.heap.objs.size → t ≠ sA.heap.objs.size + j := fun {t} j h => Nat.ne_of_lt (Nat.lt_of_lt_of_le h (Nat.le_add_right _ j))
        exact ⟨up 4 la, up 3 la, up 0 la, up 1 la, up 4 lb, up 3 lb, up 0 lb, up 1 lb⟩
      · rw [List.length_zip]; have := rx.length; omega
      · have kp3 : ∀ b o, sA.heap.get? b = some o → h2.get? b = some o := fun b o e => by
          have lb := Heap.lt_size e
          have up : ∀ (j : Nat), b ≠ sA.heap.objs.size + j := fun j => Nat.ne_of_lt (Nat.lt_of_lt_of_le lb (Nat.le_add_right _ j))
          exact kp2 b o (up 4) (up 3) (up 0) (up 1) (kp b o e)
        have hS : sA.heap.objs.size ≤ h'.objs.size := by rw [hsz]; omega
        obtain ⟨f, fd, J, nd, new, nS, newS⟩ := pairs_laid (tk := tk) I1 rx ry (by rw [List.length_zip]; have := rx.length; omega) kp3 hS eS hl O hacc
        refine ⟨.ref h'.objs.size, _, J, rfl, hq f as _ fd ?_ nd new nS newS⟩
        rw [hl, List.length_zip, List.length_zip, rx.length, ry.length]
end
section
variable {Γ : Pg} {n : Nat} {c fa : Nat → Addr} {G : Fr} {N : List Str} {sc : Scope} {X : Cx} {κ : Cn} {cs : CS}
variable {a b e d : Expr} {da db dd : DE} {pos pos2 p q : Pos} {es : List Expr} {ds : DEs}
theorem rvs_zip {F : Addr → Prop} {ρ : List Addr} {H : Hp} : ∀ {ps qs : List PV} {xs ys : List V} {bs : List Addr}, RVs κ F ρ H ps xs → RVs κ F ρ H qs ys → bs.length = (xs.zip ys).length → (∀ (i : Nat) (a : Addr) (p : V × V), bs[i]? = some a → (xs.zip ys)[i]? = some p → ∃ o : Obj, o.dict = none ∧ H a = some (.frz o (.tup [p.1, p.2]))) → RVs κ F ρ H (D.zipP ps qs) (bs.map V.ref)
  | [], qs, xs, ys, bs, h, _, hl, _ => by
    simp only [RVs] at h
    subst h
    have : bs = [] := List.length_eq_zero_iff.mp (by simpa using hl)
    subst this
    simp only [D.zipP, List.map_nil]
    exact RVs.nil
  | p :: ps, [], xs, ys, bs, _, g, hl, _ => by
    simp only [RVs] at g
    subst g
    have : bs = [] := List.length_eq_zero_iff.mp (by simpa using hl)
    subst this
    simp only [D.zipP, List.map_nil]
    exact RVs.nil
  | p :: ps, q :: qs, xs, ys, bs, h, g, hl, k => by
    simp only [RVs] at h g
    obtain ⟨x, xr, rfl, h1, h2⟩ := h
    obtain ⟨y, yr, rfl, g1, g2⟩ := g
    cases bs with
    | nil => simp at hl
    | cons b bs =>
      simp only [D.zipP, List.map_cons]
      refine RVs.cons ?_ (rvs_zip h2 g2 (by simpa using hl) fun i a p e1 e2 => k (i + 1) a p (by simpa using e1) (by simpa using e2))
      simp only [RV]
      exact ⟨b, [x, y], rfl, .inl (k 0 b (x, y) rfl rfl), RVs.cons h1 (RVs.cons g1 RVs.nil)⟩
theorem SEF.lzip (hl : okB Γ sc ("list" : Str) = true) (hx : okB Γ sc ("zip" : Str) = true) (ha : SE Γ N sc a da) (hb : SE Γ N sc b db) (hst : ∀ env, starEach [a, b] env = (false, eval a env) :: starEach [b] env := by intro _; rfl) (hst2 : ∀ env, starEach [b] env = [(false, eval b env)] := by intro _; rfl) :
    SEF Γ N sc (.Call (.Name ("list" : Str) p) [.Call (.Name ("zip" : Str) q) [a, b] [] pos2] [] pos) (D.lzip da db) := fun n c fa G X g => by
  obtain ⟨g1, g2, g3, g4⟩ := okB_gl g hl
  obtain ⟨z1, z2, z3, z4⟩ := okB_gl g hx
  refine (pe_zipL g.calm g1 g2 z1 z2 (pa_cons (ha n c fa G X g) (pa_cons (hb n c fa G X g) pa_nil (hst2 _)) (hst _)) (hst _) (by rw [hst2]; rfl) rfl).imp ?_
  rintro σ H Q ⟨ρ, st, σp, A, R, o⟩
  refine tE_bind A R o fun v st1 ρ1 H1 u e1 A1 R1 ru o1 => ?_
  refine tE_bind A1 R1 o1 fun w st2 ρ2 H2 z e2 A2 R2 rz o2 => ?_
  have ru := ru.mono (e2.mono (κ := cnOf X c) (B := G.B))
  split at o2
  · rename_i xs ys
    simp only [RV] at ru rz
    obtain ⟨a', vs, rfl, h1, r1⟩ := ru
    obtain ⟨b', ws, rfl, h2, r2⟩ := rz
    refine ⟨a', b', vs, ws, rfl, h1.sqT, h2.sqT, fun f as S fd hl nd new nS newS => ?_⟩
    have e3 : Ext ρ2 H2 ρ2 (putP f H2 as (vs.zip ws)) := ext_putP as _ _ nd new
    have W3 : Wd (cnOf X c) G.B ρ2 st2 (putP f H2 as (vs.zip ws)) := A2.wd.ext_same e3 (A2.wd.tabs.ext fun b o e => by rw [putP_off as _ _ fun z => by rw [new b z] at e; cases e]; exact e) fun t ht => putP_off as _ _ fun z => A2.wd.has ht (new t z)
    obtain ⟨ps, eq, k⟩ := o2 ρ2 _ e3 (A2.step e3 W3)
    cases eq
    refine k _ S (rvs_zip (r1.mono e3.mono) (r2.mono e3.mono) hl fun i t p q1 q2 => ⟨f t, fd t (List.mem_of_getElem? q1), putP_at as _ _ nd i t p q1 q2⟩) ?_
    rw [putP_off as _ _ nS]
    exact newS
  · exact o2.elim
theorem lo_lzip : LstOnly (D.lzip da db) := fun cs σ st v st' h => lstOnly_bind h fun x st1 _ q => lstOnly_bind q fun y st2 _ q => by
  split at q
  · cases q; exact ⟨_, rfl⟩
  · cases q
end
end Dn


namespace Dn
open PySem L2
def tFD (κ : Cn) (G : Fr) (cs : CS) (d : DE) : TE := fun σ H Q => ∃ ρ st σp, At κ G ρ st H ∧ REnv κ (Fo G.B ρ) ρ H σp σ ∧ Out κ G ρ H (d cs σp st) fun v st' ρ' H' => ∃ t kvs, v = .dic t kvs ∧
  (t = false → ∀ es p, RKs κ (Fo G.B ρ') ρ' H' kvs es → H' p = none → Q (.ref p) (upd H' p (.dK es))) ∧ (t = true → ∀ es p, RTs κ (Fo G.B ρ') ρ' H' kvs es → H' p = none → Q (.ref p) (upd H' p (dTO κ p es)))
def SED (Γ : Pg) (N : List Str) (sc : Scope) (e : Expr) (d : DE) : Prop := ∀ (n : Nat) (c fa : Nat → Addr) (G : Fr) (X : Cx), Good Γ n c fa G N sc X → PE X e (tFD (cnOf X c) G (callN Γ.tbl n) d)
def DicOnly (d : DE) : Prop := ∀ cs σ st v st', d cs σ st = .ok v st' → ∃ t kvs, v = .dic t kvs
section
variable {Γ : Pg} {n : Nat} {c fa : Nat → Addr} {G : Fr} {N : List Str} {sc : Scope} {X : Cx} {κ : Cn} {cs : CS}
variable {a b e : Expr} {da db d : DE} {pos p : Pos}
theorem tFD_val (hl : DicOnly d) : ∀ σ H Q, tE κ G cs d σ H Q → tFD κ G cs d σ H Q := by
  rintro σ H Q ⟨ρ, st, σp, A, R, o⟩
  refine ⟨ρ, st, σp, A, R, ?_⟩
  cases q : d cs σp st with
  | ok v st' =>
    obtain ⟨t, kvs, rfl⟩ := hl _ _ _ _ _ q
    rw [q] at o
    intro ρ' H' e' A'
    refine ⟨t, kvs, rfl, fun ht es p rs hp => ?_, fun ht es p rs hp => ?_⟩ <;> subst ht
    · have e2 : Ext ρ' H' ρ' (upd H' p (.dK es)) := ext_new hp
      refine o ρ' _ (e'.trans e2) (A'.step e2 (A'.wd.new hp)) _ ?_
      simp only [RV]
      exact ⟨p, es, rfl, upd_same, A'.wd.fo hp, rs.mono e2.mono⟩
    · have e2 : Ext ρ' H' ρ' (upd H' p (dTO κ p es)) := ext_new hp
      refine o ρ' _ (e'.trans e2) (A'.step e2 (A'.wd.new hp)) _ ?_
      simp only [RV]
      exact ⟨p, es, rfl, upd_same, A'.wd.fo hp, rs.mono e2.mono⟩
  | exc e st' => rw [q] at o; exact o
  | bad => rw [q] at o; exact o
theorem SED.val (h : SED Γ N sc e d) (hl : DicOnly d) : SE Γ N sc e d := fun n c fa G X g => (h n c fa G X g).imp (tFD_val hl)
theorem tFD_fresh (hl : DicOnly d) : ∀ σ H Q, tE κ G cs (D.fresh d) σ H Q → tFD κ G cs d σ H Q := by
  rintro σ H Q ⟨ρ, st, σp, A, R, o⟩
  refine ⟨ρ, st, σp, A, R, ?_⟩
  unfold D.fresh at o
  cases q : d cs σp st with
  | ok v st' =>
    obtain ⟨t, kvs, rfl⟩ := hl _ _ _ _ _ q
    rw [q] at o
    intro ρ' H' e' A'
    refine ⟨t, kvs, rfl, fun ht es p rs hp => ?_, fun ht es p rs hp => ?_⟩ <;> subst ht
    · have e2 : Ext ρ' H' (ρ' ++ [p]) (upd H' p (.dK es)) := ext_add hp _ rfl
      refine o _ _ (e'.trans e2) (A'.step e2 (A'.wd.add hp ⟨es, upd_same, rs.mono e2.mono⟩)) _ ?_
      simp only [RV]
      exact ⟨p, rfl, by rw [← A'.wd.len]; simp⟩
    · have e2 : Ext ρ' H' (ρ' ++ [p]) (upd H' p (dTO κ p es)) := ext_add hp _ rfl
      refine o _ _ (e'.trans e2) (A'.step e2 (A'.wd.add hp ⟨es, upd_same, rs.mono e2.mono⟩)) _ ?_
      simp only [RV]
      exact ⟨p, rfl, by rw [← A'.wd.len]; simp⟩
  | exc e st' => rw [q] at o; exact o
  | bad => rw [q] at o; exact o
theorem SED.fresh (h : SED Γ N sc e d) (hl : DicOnly d) : SE Γ N sc e (D.fresh d) := fun n c fa G X g => (h n c fa G X g).imp (tFD_fresh hl)
theorem dicOnly_bind {α : Type} {r : Res α} {f : α → Store → Res PV} {v : PV} {st' : Store} (h : r.bind f = .ok v st') (k : ∀ a st, r = .ok a st → f a st = .ok v st' → ∃ t kvs, v = .dic t kvs) : ∃ t kvs, v = .dic t kvs := by
  cases r with
  | ok a st => exact k a st rfl h
  | exc e st => cases h
  | bad => cases h

theorem dT_empty {P : Program} {w : World} {κ : Cn} (hP : κ.P = P) (hw : κ.w = w) {H : Hp} {h : Heap} {a : Addr} (hb : (a == sysModules) = false) (e : h.get? a = some { cls := .type "dict", data := .dict #[] }) : ObjOk P w H h a (dTO κ a []) := by
  subst hP hw
  have q : dPhi κ a [] h := ⟨hb, Nat.zero_le _, fun x hx => by simp at hx, [], .nil, _, #[], 0, e, ⟨rfl, rfl, rfl⟩, rfl, rfl, List.nodup_nil⟩
  refine ⟨q, ⟨_, e⟩, fun h1 h2 hh1 k => ?_⟩
  obtain ⟨q1, q2, q3, zs, q4, o1, e1, p1, w1, w2, w3, w4, w5⟩ := hh1
  exact ⟨q1, q2, q3, zs, q4, o1, e1, p1, k _ w1, w2, w3, w4, w5⟩
theorem lo_dict {ps : List (DE × DE)} {t : Bool} : DicOnly (D.dict t ps) := fun cs σ st v st' h => dicOnly_bind h fun y st1 _ q => by cases q; exact ⟨_, _, rfl⟩
theorem dT_ok {P : Program} {w : World} {κ : Cn} (hP : κ.P = P) (hw : κ.w = w) {H : Hp} {h : Heap} {a : Addr} {es : List E3} {ys : List (NestedKey × Addr × Value)} (hb : (a == sysModules) = false) (hl : es.length ≤ sizeLine) (hd : ∀ x ∈ es, x.1.depth ≤ 8) (pe : Paired EV es ys) (dd : h.DictOfH (nestedKind P w) a ys) : ObjOk P w H h a (dTO κ a es) := by
  subst hP hw
  obtain ⟨o', ee, ep, g1, g2, g3, g4, g5, g6⟩ := dd
  refine ⟨⟨hb, hl, hd, ys, pe, o', ee, ep, g1, g2, g3, g4, g6⟩, ⟨o', g1⟩, fun h1 h2 hh1 k => ?_⟩
  obtain ⟨q1, q2, q3, zs, q4, o1, e1, p1, w1, w2, w3, w4, w5⟩ := hh1
  exact ⟨q1, q2, q3, zs, q4, o1, e1, p1, k _ w1, w2, w3, w4, w5⟩
theorem paired_back {α β : Type} {R : α → β → Prop} : ∀ {xs : List α} {ys : List β}, Paired R xs ys → ∀ {y : β}, y ∈ ys → ∃ (j : Nat) (x : α), ys[j]? = some y ∧ xs[j]? = some x ∧ R x y
  | _, _, .nil, y, h => by simp at h
  | _, _, .cons (a := a) (b := b) r t, y, h => by
    rcases List.mem_cons.mp h with e | e
    · subst e
      exact ⟨0, a, rfl, rfl, r⟩
    · obtain ⟨j, x, e1, e2, e3⟩ := paired_back t e
      exact ⟨j + 1, x, by simpa using e1, by simpa using e2, e3⟩
def putAll (es : List E3) (l : List E3) : List E3 := l.foldl (fun es q => putT es q.1 q.2.1 q.2.2) es
theorem putAll_of : ∀ {l : List E3} {zs : List (NestedKey × Addr × Value)} {es : List E3} {ys : List (NestedKey × Addr × Value)}, Paired EV l zs → Paired EV es ys → Paired EV (putAll es l) (storedAllH ys zs)
  | [], _, es, ys, .nil, r => r
  | x :: l, z :: zs, es, ys, .cons ⟨e1, e2, e3⟩ p, r => by
    show Paired EV (putAll (putT es x.1 x.2.1 x.2.2) l) (storedAllH (storedH ys z.1 z.2.1 z.2.2) zs)
    rw [e1, e2]
    exact putAll_of p (put_of e3 r)
theorem putAll_len : ∀ (l es : List E3), (putAll es l).length ≤ es.length + l.length
  | [], es => by show es.length ≤ es.length + 0; omega
  | x :: l, es => by
    have h1 := putAll_len l (putT es x.1 x.2.1 x.2.2)
    have h2 := putT_len (k := x.1) (w := x.2.2) (a := x.2.1) (es := es)
    show (putAll (putT es x.1 x.2.1 x.2.2) l).length ≤ _
    rw [List.length_cons]
    omega
theorem putAll_deep : ∀ {l es : List E3}, (∀ x ∈ es, x.1.depth ≤ 8) → (∀ x ∈ l, x.1.depth ≤ 8) → ∀ x ∈ putAll es l, x.1.depth ≤ 8
  | [], es, h, _ => h
  | y :: l, es, h, g => putAll_deep (l := l) (putT_deep h (g y List.mem_cons_self)) fun x hx => g x (List.mem_cons_of_mem _ hx)
def KeyRs (κ : Cn) (F : Addr → Prop) (ρ : List Addr) (H : Hp) (l : List E3) : Prop := ∀ x ∈ l, ∃ k, keyT true k = true ∧ toNK k = some x.1 ∧ RV κ F ρ H k (.ref x.2.1)
theorem keyRs_is {pins : List (Addr × Obj)} {σ : St} {H : Hp} {s : Shared} {F : Addr → Prop} {ρ : List Addr} (I : Inv X pins σ H s) {l : List E3} (h : KeyRs (cnOf X c) F ρ H l) : ∀ x ∈ l, (nestedKind X.prog X.w).is s.heap x.1 x.2.1 ∧ x.1.depth ≤ 8 := fun x hx => by
  obtain ⟨k, k1, k2, k3⟩ := h x hx
  obtain ⟨nk, b, e1, d8, e2, _, is⟩ := key_is I k1 k3 rfl
  rw [k2] at e1
  cases e1
  cases e2
  exact ⟨is, d8⟩
def rDictT (X : Cx) (c : Nat → Addr) : List V → Hp → VK → Prop := fun xs H Q => ∃ (F : Addr → Prop) (ρ : List Addr) (a : Addr) (ps : List Addr) (l : List E3), xs = [.ref a] ∧ SqL X.K H a (ps.map V.ref) ∧ Paired (fun p (q : E3) => SqT X.K H p [.ref q.2.1, q.2.2]) ps l ∧ KeyRs (cnOf X c) F ρ H l ∧
  ∀ p, H p = none → Q (.ref p) (upd H p (dTO (cnOf X c) p (putAll [] l)))
theorem pairsT_of {pins : List (Addr × Obj)} {σ : St} {H : Hp} {s : Shared} (I : Inv X pins σ H s) : ∀ {ps : List Addr} {l : List E3}, Paired (fun p (q : E3) => SqT X.K H p [.ref q.2.1, q.2.2]) ps l →
    ∃ zs : List (NestedKey × Addr × Value), Paired EV l zs ∧ zs.length = ps.length ∧ ∀ (j : Nat) (z : NestedKey × Addr × Value), zs[j]? = some z → ∃ b, ps[j]? = some b ∧ s.heap.IsTuple b #[.ref z.2.1, z.2.2]
  | _, _, .nil => ⟨[], .nil, rfl, fun j q e => by simp at e⟩
  | _, _, .cons (a := p) (b := q) h t => by
    obtain ⟨zs, r, hl, hp⟩ := pairsT_of I t
    obtain ⟨its, rv, ht, _⟩ := I.tuple h
    obtain ⟨u, y, rfl, ru, ry⟩ := vals2 rv
    cases ru
    refine ⟨(q.1, q.2.1, y) :: zs, .cons ⟨rfl, rfl, ry⟩ r, by rw [List.length_cons, List.length_cons, hl], fun j z e => ?_⟩
    cases j with
    | zero =>
      cases (Option.some.inj e)
      exact ⟨p, rfl, ht⟩
    | succ j =>
      obtain ⟨b, e1, e2⟩ := hp j z (by simpa using e)
      exact ⟨b, by simpa using e1, e2⟩
theorem call_dictT (hc : X.calm = true) (hu : X.A.units + 65 < cLine) : CallR X (.type "dict") (rDictT X c) := by
  intro pins s σ H xs us Q I r q
  obtain ⟨F, ρ, a, ps, l, rfl, hq, hp, hk, q⟩ := q
  obtain ⟨u, rfl, rx⟩ := vals1 r
  cases rx
  obtain ⟨its, rv, pl, hz⟩ := I.list hq
  have ei := refs_at rv
  subst ei
  rw [List.length_map] at hz
  obtain ⟨zs, rel, hl, hpr⟩ := pairsT_of I hp
  obtain ⟨o, n, ho, hcl, hd, hdat⟩ := pl
  have his : ∀ z ∈ zs, (nestedKind X.prog X.w).is s.heap z.1 z.2.1 := fun z hz' => by
    obtain ⟨j, x, e1, e2, e3⟩ := paired_back rel hz'
    obtain ⟨f1, f2, _⟩ := e3
    rw [← f1, ← f2]
    exact (keyRs_is I hk x (List.mem_of_getElem? e2)).1
  refine call_dict_pairsH (A := X.A) (knd := nestedKind X.prog X.w) (ps := zs) (PairArg.list a (ps.map Value.ref).toArray (fun j => ps.getD j 0) (zs.map fun z => (Value.ref z.2.1, z.2.2))) (I.ok.hd hc) (room8 (A := X.A.in1) (by show X.A.units + 1 + 64 < cLine; omega) _ _) ⟨⟨o, n, ho, hcl, hd, hdat⟩, by simp [hl], fun j k v e => ?_⟩
    ⟨by simp, fun i key v e => ?_⟩ (fun h' keep z hz' => ?_) (by simp [hl]; exact hz) fun h' tk dd keep => ?_
  · rw [List.getElem?_map] at e
    cases ez : zs[j]? with
    | none => rw [ez] at e; cases e
    | some z =>
      rw [ez] at e
      cases e
      obtain ⟨b, e1, e2⟩ := hpr j z ez
      refine ⟨by simp [e1], ?_⟩
      show PairAt s.heap (ps.getD j 0) _ _
      rw [List.getD_eq_getElem?_getD, e1]
      obtain ⟨o2, f1, f2, f3⟩ := e2
      exact .inl ⟨o2, f1, f2, f3⟩
  · have e : (zs.map fun z => (Value.ref z.2.1, z.2.2))[i]? = some (key, v) := e
    rw [List.getElem?_map] at e
    cases ez : zs[i]? with
    | none => rw [ez] at e; cases e
    | some z =>
      rw [ez] at e
      cases e
      exact ⟨z.1, z.2.1, rfl, rfl⟩
  · refine nestedKind_stays.stays (fun b o vs n e ed => ?_) (his z hz')
    refine keep b o (fun hb => ?_) (by simp) e
    rw [hb] at e
    exact Nat.lt_irrefl _ (Heap.lt_size e)
  · have hm : (s.heap.objs.size == sysModules) = false := beq_eq_false_iff_ne.mpr (Nat.ne_of_gt I.big)
    have hlen : (putAll [] l).length ≤ sizeLine := by
      refine Nat.le_trans (putAll_len l []) ?_
      rw [List.length_nil, Nat.zero_add, Paired.length rel, hl]
      exact hz
    exact ⟨.ref s.heap.objs.size, upd H s.heap.objs.size (dTO (cnOf X c) s.heap.objs.size (putAll [] l)), I.laid (t' := tk) (fun b o e => keep b o (by simp) e) (Nat.le_refl _)
      (dT_ok (κ := cnOf X c) rfl rfl hm hlen (putAll_deep (fun x hx => by simp at hx) fun x hx => (keyRs_is I hk x hx).2) (putAll_of rel .nil) dd), rfl, q _ (I.hok.fresh (Nat.le_refl _))⟩
theorem pairs_true {F : Addr → Prop} {ρ : List Addr} {H : Hp} : ∀ {xs : List PV} {acc kvs : List (PV × PV)} {vs : List V} {es : List E3}, D.pairs true xs acc = some kvs → RVs κ F ρ H xs vs → RTs κ F ρ H acc es →
    ∃ (ps : List Addr) (l : List E3), vs = ps.map V.ref ∧ Paired (fun p (q : E3) => SqT κ.K H p [.ref q.2.1, q.2.2]) ps l ∧ KeyRs κ F ρ H l ∧ RTs κ F ρ H kvs (putAll es l)
  | [], acc, kvs, vs, es, h, r, ra => by
    cases h
    simp only [RVs] at r
    subst r
    exact ⟨[], [], rfl, .nil, (fun x hx => by simp at hx), ra⟩
  | x :: xs, acc, kvs, vs, es, h, r, ra => by
    unfold D.pairs at h
    split at h
    · rename_i eq; cases eq
    · rename_i k v t eq
      cases eq
      split at h
      · rename_i hk
        simp only [RVs] at r
        obtain ⟨w, vr, rfl, r1, r2⟩ := r
        simp only [RV, RVs] at r1
        obtain ⟨b, ws, rfl, h1, k1, t1, rfl, rk, v1, t2, rfl, rv, rfl⟩ := r1
        have hk' := hk
        cases k <;> simp only [keyT, if_true, Bool.false_eq_true] at hk'
        rename_i ks
        obtain ⟨nk, ek, d8⟩ := keyOk_nk 8 _ hk'
        have rk' := rk
        simp only [RV] at rk'
        obtain ⟨kb, kvs', rfl, h4, h5⟩ := rk'
        obtain ⟨ps, l, rfl, p1, p2, p3⟩ := pairs_true h r2 (ra.put ek rk rv)
        refine ⟨b :: ps, (nk, kb, v1) :: l, rfl, .cons h1.sqT p1, fun x hx => ?_, p3⟩
        rcases List.mem_cons.mp hx with e | e
        · subst e; exact ⟨_, hk, ek, rk⟩
        · exact p2 x e
      · cases h
    · cases h
theorem pairs_false {F : Addr → Prop} {ρ : List Addr} {H : Hp} : ∀ {xs : List PV} {acc kvs : List (PV × PV)} {vs : List V} {es : List (Key × V)}, D.pairs false xs acc = some kvs → RVs κ F ρ H xs vs → RKs κ F ρ H acc es →
    ∃ (ps : List Addr) (l : List (Key × V)), vs = ps.map V.ref ∧ Paired (fun p (q : Key × V) => SqT κ.K H p [kV q.1, q.2]) ps l ∧ RKs κ F ρ H kvs (mergeK es l)
  | [], acc, kvs, vs, es, h, r, ra => by
    cases h
    simp only [RVs] at r
    subst r
    exact ⟨[], [], rfl, .nil, ra⟩
  | x :: xs, acc, kvs, vs, es, h, r, ra => by
    unfold D.pairs at h
    split at h
    · rename_i eq; cases eq
    · rename_i k v t eq
      cases eq
      split at h
      · rename_i hk
        simp only [RVs] at r
        obtain ⟨w, vr, rfl, r1, r2⟩ := r
        simp only [RV, RVs] at r1
        obtain ⟨b, ws, rfl, h1, k1, t1, rfl, rk, v1, t2, rfl, rv, rfl⟩ := r1
        obtain ⟨kk, ek⟩ := keyT_false hk
        have := rv_key ek rk
        subst this
        obtain ⟨ps, l, rfl, p1, p3⟩ := pairs_false h r2 (ra.put ek rv)
        exact ⟨b :: ps, (kk, v1) :: l, rfl, .cons h1.sqT p1, p3⟩
      · cases h
    · cases h
theorem SED.dictOf {t : Bool} (hx : okB Γ sc ("dict" : Str) = true) (ha : SE Γ N sc a da) (hst : ∀ env, starEach [a] env = [(false, eval a env)] := by intro _; rfl) : SED Γ N sc (.Call (.Name ("dict" : Str) p) [a] [] pos) (D.op1 (O.dictOf t) da) := fun n c fa G X g => by
  obtain ⟨g1, g2, g3, g4⟩ := okB_gl g hx
  refine (pe_callTy (CallR.or (call_dictP g.calm) (call_dictT (c := c) g.calm g.u65)) g1 g2 (by decide +kernel) (pa_cons (ha n c fa G X g) pa_nil (hst _)) g3 g4 (hst _) rfl).imp ?_
  rintro σ H Q ⟨ρ, st, σp, A, R, o⟩
  refine tE_bind A R o fun v st1 ρ1 H1 u e1 A1 R1 ru o1 => ?_
  obtain ⟨res, ef, k⟩ := o1.of
  have rp := RR.of A1.wd ru
  obtain ⟨t', kvs, rfl, k1, k2⟩ := k ρ1 H1 Ext.refl A1
  unfold O.dictOf at ef
  split at ef
  · rename_i xs eq
    rw [eq] at rp
    obtain ⟨a', vs, rfl, h1, r1⟩ := rr_lst rp
    obtain ⟨kvs', ep, ez⟩ := Option.map_eq_some_iff.mp ef
    cases ez
    cases t with
    | false =>
      obtain ⟨ps, l, rfl, p1, p2⟩ := pairs_false (es := []) ep r1 (by simp only [RKs])
      exact .inl ⟨a', ps, l, rfl, SqL.of h1, p1, fun q hq => k1 rfl _ q p2 hq⟩
    | true =>
      obtain ⟨ps, l, rfl, p1, p2, p3⟩ := pairs_true (es := []) ep r1 (by simp only [RTs])
      exact .inr ⟨_, _, a', ps, l, rfl, SqL.of h1, p1, p2, fun q hq => k2 rfl _ q p3 hq⟩
  · cases ef
theorem do_dictOf {t : Bool} : DicOnly (D.op1 (O.dictOf t) da) := fun cs σ st v st' q => dicOnly_bind q fun x st1 _ q => by
  cases e : O.dictOf t (deref st1 x) with
  | none => rw [e] at q; cases q
  | some w =>
    rw [e] at q
    cases q
    unfold O.dictOf at e
    split at e
    · obtain ⟨kvs, _, ez⟩ := Option.map_eq_some_iff.mp e
      exact ⟨_, _, ez.symm⟩
    · cases e

theorem pe_dnewE {κ : Cn} (hP : κ.P = X.prog) (hw : κ.w = X.w) : PE X (.Dict [] [] pos) (fun σ H Q => ∀ p, H p = none → Q (.ref p) (upd H p (dTO κ p []))) := ⟨fun pins s σ H Q I h =>
  wpAny_Dict_empty ⟨.ref s.heap.objs.size, _, I.laid (a := s.heap.objs.size) (o := dTO κ s.heap.objs.size []) (t' := s.toks) (fun _ _ q => Heap.get?_push_of_some _ q) (Nat.le_refl _) (dT_empty hP hw (beq_eq_false_iff_ne.mpr (Nat.ne_of_gt I.big)) (Heap.get?_push_size _ rfl)), rfl, h _ (I.hok.fresh (Nat.le_refl _))⟩⟩
theorem SED.dict0T : SED Γ N sc (.Dict [] [] pos) (D.dict true []) := fun n c fa G X g => by
  refine (pe_dnewE (κ := cnOf X c) rfl rfl).imp ?_
  rintro σ H Q ⟨ρ, st, σp, A, R, o⟩
  obtain ⟨t, kvs, e, _, k2⟩ := o.ret A
  cases e
  exact fun p hp => k2 rfl [] p (by simp only [RTs]) hp
end
end Dn


namespace Dn
open PySem L2
section
variable {Γ : Pg} {n : Nat} {c fa : Nat → Addr} {G : Fr} {N : List Str} {sc : Scope} {X : Cx} {κ : Cn} {cs : CS}
variable {a b e : Expr} {da db d : DE} {pos : Pos}
theorem Good.lay (g : Good Γ n c fa G N sc X) (D : Addr) : Good Γ n c fa (G.blk D) N sc X := ⟨g.hN, g.hsc, g.nd, g.calm, g.room, g.ng, g.envs, by rw [exk_never fun e st z => z]; exact passL, g.kind, g.lamc, fun a b => let ⟨x, y, z⟩ := g.tp a b; ⟨x, y, z.imp fun _ _ _ _ ⟨_, _, _, _, _, q⟩ => q.elim⟩⟩
abbrev tIn (κ : Cn) (G : Fr) (cs : CS) (d : DE) : TE := fun σ H Q => ∃ D, tE κ (G.blk D) cs d σ H Q
inductive SPs (Γ : Pg) (N : List Str) (sc : Scope) : List (Option Expr) → List Expr → List (DE × DE) → Prop
  | nil : SPs Γ N sc [] [] []
  | cons {k v : Expr} {dk dv : DE} {ks : List (Option Expr)} {vs : List Expr} {ds : List (DE × DE)} : SE Γ N sc k dk → SE Γ N sc v dv → SPs Γ N sc ks vs ds → SPs Γ N sc (some k :: ks) (v :: vs) ((dk, dv) :: ds)
theorem SPs.len {ks : List (Option Expr)} {vs : List Expr} {ds : List (DE × DE)} (h : SPs Γ N sc ks vs ds) : ks.length = vs.length ∧ ks.length = ds.length ∧ ks.all (·.isSome) = true := by
  induction h with
  | nil => exact ⟨rfl, rfl, rfl⟩
  | cons _ _ _ ih => exact ⟨by simp [ih.1], by simp [ih.2.1], by simp [ih.2.2]⟩
abbrev PK (κ : Cn) (G : Fr) (p : Addr) (ρ1 : List Addr) (H1 : Hp) (Q : VK) : List (PV × PV) → Store → Prop := fun kvs st' => ∀ ρ' H' es, Ext ρ1 H1 ρ' H' → At κ (G.blk p) ρ' st' H' → H' p = some (.dK []) → RKs κ (Fo (G.blk p).B ρ') ρ' H' kvs es → Q (.ref p) (upd H' p (.dK es))
abbrev PT (κ : Cn) (G : Fr) (p : Addr) (ρ1 : List Addr) (H1 : Hp) (Q : VK) : List (PV × PV) → Store → Prop := fun kvs st' => ∀ ρ' H' es, Ext ρ1 H1 ρ' H' → At κ (G.blk p) ρ' st' H' → H' p = some (dTO κ p []) → RTs κ (Fo (G.blk p).B ρ') ρ' H' kvs es → Q (.ref p) (upd H' p (dTO κ p es))
theorem KeyRs.mono {F F' : Addr → Prop} {ρ ρ' : List Addr} {H H' : Hp} {l : List E3} (m : Mono κ F ρ H F' ρ' H') (h : KeyRs κ F ρ H l) : KeyRs κ F' ρ' H' l := fun x hx => let ⟨k, a, b, r⟩ := h x hx; ⟨k, a, b, r.mono m⟩


theorem fin_calm {α : Type} {r : Res α} {ρ : List Addr} {H : Hp} {f : α → Store → Res PV} {P : PV → Store → List Addr → Hp → Prop} (o : Out κ G ρ H (r.calm.bind f) P) : FinR (fun a st => Out κ G ρ H (f a st) P) r := by
  cases r with
  | ok a st => exact o
  | exc e st => exact o
  | bad => exact o
end
end Dn


namespace Dn
open PySem L2
section
variable {Γ : Pg} {n : Nat} {c fa : Nat → Addr} {G : Fr} {N : List Str} {sc scope : Scope} {X : Cx} {κ : Cn} {cs : CS}
theorem put_dT {pins : List (Addr × Obj)} {σ : St} {H : Hp} {s : Shared} {E : Value → Shared → Prop} {D : Addr} {es : List E3} {kvs : List (PV × PV)} {F : Addr → Prop} {ρ : List Addr} {k : PV} {nk : NestedKey} {b : Addr} {v : V} {u r : Value} {Q : Unit → Shared → Prop} (hu : X.A.units + 64 < cLine) (I : Inv X pins σ H s) (hD : H D = some (dTO (cnOf X c) D es)) (rt : RTs (cnOf X c) F ρ H kvs es) (hz : es.length < sizeLine)
    (hk : keyT true k = true) (ek : toNK k = some nk) (rk : RV (cnOf X c) F ρ H k (.ref b)) (ry : RelV (.ref b) u) (rv : RelV v r) (h : ∀ s', Inv X pins σ (upd H D (dTO (cnOf X c) D (putT es nk b v))) s' → Q () s') : wpAny (model X.prog X.w) X.A (dictSet D u r) Q E s := by
  obtain ⟨nk', b', e1, d8, e2, e3, is⟩ := key_is I hk rk ry
  rw [ek] at e1
  cases e1
  cases e2
  subst e3
  obtain ⟨ys, dd, pe, sys, _, deep⟩ := dT_of I (.inl hD) rt
  have hlen : ys.length = es.length := (Paired.length pe).symm
  refine wpAny_dictSet_heap (knd := nestedKind X.prog X.w) (hsz := by rw [hlen]; exact Nat.le_of_lt hz) (by show X.A.units + 8 < cLine; omega) is dd fun h' dd' hs => h _ ?_
  have he : ∃ q, h'.get? D = some q := let ⟨q, _, _, hq, _⟩ := dd'; ⟨q, hq⟩
  exact I.write (t' := _) (x := D) (e := D) (o := dTO (cnOf X c) D (putT es nk b v)) (by rw [hD]; exact trivial) (.inl rfl) (fun b u hb e => (hs.2 b hb).trans e) he
    (dT_ok (κ := cnOf X c) rfl rfl sys (Nat.le_trans putT_len (by omega)) (putT_deep deep d8) (put_of rv pe) dd')
def tDcT (X : Cx) (c : Nat → Addr) (wi : TI) (g : TG) (tt : TT) (tk tv : TE) (vs : List Nat) : TE := fun σ H Q => wi σ H fun J H1 => ∀ D, H1 D = none → ∃ W : Nat → Nat → Hp → Prop, (∃ m, W 0 m (upd H1 D (dTO (cnOf X c) D []))) ∧ ∀ i m H, W i m H →
  (J.stop i H ∧ Q (.ref D) H) ∨ (J.go i H ∧ ∃ Nx : Hp → Prop, (∀ H', Nx H' → ∃ m', m' < m ∧ W (i + 1) m' H') ∧ ∀ x H', J.yld i H x H' → g x (L2.wipe σ vs) H' fun σ2 H2 => L2.wipe σ2 vs = L2.wipe σ vs ∧ tt σ2 H2 fun b H3 =>
    if b = true then tk σ2 H3 fun y H4 => tv σ2 H4 fun z H5 => ∃ (F : Addr → Prop) (ρ : List Addr) (k : PV) (kvs : List (PV × PV)) (es : List E3) (nk : NestedKey) (kb : Addr), y = .ref kb ∧ H5 D = some (dTO (cnOf X c) D es) ∧ es.length < sizeLine ∧ RTs (cnOf X c) F ρ H5 kvs es ∧ keyT true k = true ∧ toNK k = some nk ∧ RV (cnOf X c) F ρ H5 k (.ref kb) ∧ Nx (upd H5 D (dTO (cnOf X c) D (putT es nk kb z))) else Nx H3)
theorem dcT_core {pins : List (Addr × Obj)} {s : Shared} {σ : St} {H : Hp} {Q : VK} {kx vx tg iter : Expr} {ifs : List Expr} {scope : Scope} {own : List (Str × Nat)} {pos pos' : Pos} {wi : TI} {g : TG} {tt : TT} {tk tv : TE} {use : Option (Value → Sem Unit)} {Qf : Value → Shared → Prop}
    (hu : X.A.units + 64 < cLine) (hc : X.calm = true) (hN : X.N.Nodup) (I : Inv X pins σ H s) (hi : PI X tg iter wi) (ok : BlkOk X.N X.env.scope scope own)
    (hg : ∀ (s : Shared) (H : Hp) (C : Addr) (cl : List (Str × Addr)) (fp : List Addr), PG (X.blk s H scope (compEnvC scope cl C X.env) fp) tg g) (ht : ∀ (s : Shared) (H : Hp) (C : Addr) (cl : List (Str × Addr)) (fp : List Addr), PTs (X.blk s H scope (compEnvC scope cl C X.env) fp) ifs tt)
    (hk : ∀ (s : Shared) (H : Hp) (C : Addr) (cl : List (Str × Addr)) (fp : List Addr), PE (X.blk s H scope (compEnvC scope cl C X.env) fp) kx tk)
    (he : ∀ (s : Shared) (H : Hp) (C : Addr) (cl : List (Str × Addr)) (fp : List Addr), PE (X.blk s H scope (compEnvC scope cl C X.env) fp) vx tv) (hs : ∀ x, foldedSetIterable iter X.env x = pure x)
    (h : tDcT X c wi g tt tk tv (own.map (·.2)) σ H Q)
    (hRR : ∀ D C s' m H', Inv X pins σ H' s' → Q (.ref D) H' → s'.heap.Ns C m → FpOk X pins H' C → compPost (model X.prog X.w) X.A X.xe use Qf (.ref D) C (.ok .next) s') :
    wpAny (model X.prog X.w) X.A (comprehension (.DictComp kx vx [⟨tg, iter, ifs, 0⟩] scope pos) scope X.env pos' newDict false (eval iter X.env) use) Qf X.xe s := by
  have freeN : ∀ y ∈ scope.names, y.2 = .free → ∃ q, X.env.cells.lookup y.1 = some q := fun y hy e => (ok.free y hy e).elim (fun k => I.ok.has _ (.inl k)) fun k => I.ok.has _ (.inr k)
  refine wpAny_comprehension_free (use := use) rfl hs (closure_ok freeN) ok.kind (fun y hy e => by rw [ok.uniq y hy, e])
    (thn (hi.run pins s σ H _ I h) fun xv sA hx => thn hx fun itv sB hB => ?_)
  obtain ⟨it, fp, tn, J, HB, e, IB, T, stB, fB, q⟩ := hB
  subst e
  refine wpAny_newObj_type (newEnv_comp ?_)
  generalize hD : sB.heap.objs.size = D
  have hDn : HB D = none := IB.hok.fresh (Nat.le_of_eq hD)
  have hDs : (D == sysModules) = false := beq_eq_false_iff_ne.mpr (by rw [← hD]; exact Nat.ne_of_gt IB.big)
  obtain ⟨W, ⟨m0, w0⟩, turn⟩ := q D hDn
  generalize hsC : ({ sB with heap := sB.heap.push { cls := .type "dict", data := .dict #[] } } : Shared) = sC
  have IC : Inv X pins σ (upd HB D (dTO (cnOf X c) D [])) sC := by
    rw [← hsC]
    refine IB.laid (t' := sB.toks) (fun b o e => Heap.get?_push_of_some _ e) (Nat.le_of_eq hD) (dT_empty rfl rfl hDs ?_)
    rw [← hD]
    exact Heap.get?_push_size _ rfl
  have hpC : sC.heap = sB.heap.push { cls := .type "dict", data := .dict #[] } := by rw [← hsC]
  have szC : ∀ b ∈ fp, b < sB.heap.objs.size := fun b hb => by
    obtain ⟨o, e, _⟩ := T.obj _ _ stB b hb
    exact Heap.lt_size e
  have fC : ∀ b ∈ fp, FpOk X pins (upd HB D (dTO (cnOf X c) D [])) b ∧ b < sC.heap.objs.size := fun b hb => by
    refine ⟨⟨?_, (fB b hb).2⟩, by rw [hpC, Heap.size_push]; exact Nat.lt_succ_of_lt (szC b hb)⟩
    rw [upd_ne (by rw [← hD]; exact Nat.ne_of_lt (szC b hb))]
    exact (fB b hb).1
  have stC : tn 0 sC.heap := T.keep _ _ _ stB fun b _ o e => by rw [hpC]; exact Heap.get?_push_of_some _ e
  have ID := block_start IC ok hN fC
  have pg := hg sC (upd HB D (dTO (cnOf X c) D [])) sC.heap.objs.size (cellsFrom (sC.heap.objs.size + 1) scope.names (cloFrom X.env.cells scope.names [])) fp
  have pt := ht sC (upd HB D (dTO (cnOf X c) D [])) sC.heap.objs.size (cellsFrom (sC.heap.objs.size + 1) scope.names (cloFrom X.env.cells scope.names [])) fp
  have pk := hk sC (upd HB D (dTO (cnOf X c) D [])) sC.heap.objs.size (cellsFrom (sC.heap.objs.size + 1) scope.names (cloFrom X.env.cells scope.names [])) fp
  have pe := he sC (upd HB D (dTO (cnOf X c) D [])) sC.heap.objs.size (cellsFrom (sC.heap.objs.size + 1) scope.names (cloFrom X.env.cells scope.names [])) fp
  show codeAny _ _ (.compStart (.DictComp kx vx [⟨tg, iter, ifs, 0⟩] scope pos) 0 (.ref it) (.ref D) (compEnvC scope (cellsFrom (sC.heap.objs.size + 1) scope.names (cloFrom X.env.cells scope.names [])) sC.heap.objs.size X.env)) (compPost (model X.prog X.w) X.A X.xe use Qf (.ref D) sC.heap.objs.size) { sC with heap := pushCells (sC.heap.push { cls := .type "dict", data := .dict #[] }) scope.names }
  have nC : ∀ b ∈ fp, (upd HB D (dTO (cnOf X c) D [])) b = none := fun b hb => (fC b hb).1.1
  generalize hce : compEnvC scope (cellsFrom (sC.heap.objs.size + 1) scope.names (cloFrom X.env.cells scope.names [])) sC.heap.objs.size X.env = ce at ID pg pt pk pe ⊢
  have cL : ce.locals = sC.heap.objs.size := by subst hce; rfl
  generalize hHC : upd HB D (dTO (cnOf X c) D []) = HC at IC ID pg pt pk pe w0 nC fC
  generalize hsD : ({ sC with heap := pushCells (sC.heap.push { cls := .type "dict", data := .dict #[] }) scope.names } : Shared) = sD at ID ⊢
  have stD : tn 0 sD.heap := T.keep _ _ _ stC fun b _ o e => by rw [← hsD]; exact pushCells_keeps _ _ _ _ (Heap.get?_push_of_some _ e)
  have fpk : ∀ {σ' : St} {H' : Hp} {s' : Shared}, Inv (X.blk sC HC scope ce fp) [] σ' H' s' → (∀ b ∈ fp, H' b = none) → ∀ b ∈ fp, FpOk (X.blk sC HC scope ce fp) [] H' b := fun {σ' H' s'} I' hn b hb =>
    ⟨hn b hb, (I'.ok.exf b hb).1, I'.ok.exfs b hb, .inl hb, fun x c e => (I'.ok.exf b hb).2 x c e, fun p hp => absurd (show p ∈ ([] : List (Addr × Obj)) ++ [] from hp) (by simp)⟩
  have loop : codeAny (model X.prog X.w) X.A (.compLoop (.DictComp kx vx [⟨tg, iter, ifs, 0⟩] scope pos) 0 (.ref it) (.ref D) ce) (compPost (model X.prog X.w) X.A X.xe use Qf (.ref D) sC.heap.objs.size) sD := by
    refine compLoop_anyD (fun n s' => ∃ i H', Inv (X.blk sC HC scope ce fp) [] (L2.wipe σ (own.map (·.2))) H' s' ∧ tn i s'.heap ∧ (∀ b ∈ fp, H' b = none) ∧ W i n H') ?_ m0 ⟨0, HC, ID, stD, nC, w0⟩
    rintro n sE ⟨i, HE, IE, stE, nE, wE⟩
    rcases turn i n HE wE with ⟨stop, qq⟩ | ⟨go, Nx, hNx, step⟩
    · refine thnF (T.done (X.blk sC HC scope ce fp) rfl rfl rfl hc i [] sE _ HE (fun _ _ => False) IE (fpk IE nE) stE stop) fun r sF ⟨hr, IF⟩ => ?_
      subst hr
      have IG : Inv X pins σ HE sF := IC.call' (ch := fp) IF.os IF.base IF.hok IF.bare fun b hb => ⟨(fC b hb).1.2.2.2.1, (fC b hb).1.2.1, (fC b hb).1.2.2.2.2.1, (fC b hb).1.2.2.2.2.2⟩
      have nCs : HE sC.heap.objs.size = none := by
        have z : HE ce.locals = none := IF.free
        rw [cL] at z
        exact z
      obtain ⟨m, hn, _⟩ := IF.loc
      have hn : sF.heap.Ns ce.locals m := hn
      rw [cL] at hn
      exact hRR D sC.heap.objs.size sF m HE IG qq hn (IC.fpOk (Nat.le_refl _) nCs)
    · refine thnF (T.item (X.blk sC HC scope ce fp) rfl rfl rfl hc i [] sE _ HE (fun _ _ => False) IE (fpk IE nE) stE go) fun r sF ⟨u, hr, hF⟩ => ?_
      subst hr
      refine thnF hF fun _ sG ⟨x, HG, IG, rG, yG, stG, nG⟩ => ?_
      have IGp := IG.pinned (fpk IG nG) (T.obj _ _ stG)
      refine thnF (pg.run _ sG _ HG x u _ IGp rG (step x HG yG)) fun _ sK ⟨σK, HK, IK, hwK, qK⟩ => ?_
      refine thnF (pt.run _ sK σK HK _ IK qK) fun b sL ⟨HL, IL, qL⟩ => ?_
      have fin : ∀ {s' : Shared} {H' : Hp}, Inv (X.blk sC HC scope ce fp) ([] ++ pinsAt fp sG.heap) σK H' s' → Nx H' → ∃ m, m < n ∧ ∃ i H', Inv (X.blk sC HC scope ce fp) [] (L2.wipe σ (own.map (·.2))) H' s' ∧ tn i s'.heap ∧ (∀ b ∈ fp, H' b = none) ∧ W i m H' := fun {s' H'} I' nx => by
        obtain ⟨m', hm, w'⟩ := hNx H' nx
        have pinned : ∀ b ∈ fp, ∀ o, sG.heap.get? b = some o → s'.heap.get? b = some o ∧ H' b = none := fun b hb o e =>
          let z := I'.pin (b, o) (List.mem_append_right _ (List.mem_append_right _ (mem_pinsAt hb e)))
          ⟨z.1, z.2.1⟩
        have hl : (L2.wipe σ (own.map (·.2))).length = σK.length := by rw [← hwK, wipe_length]
        refine ⟨m', hm, i + 1, H', (I'.unpinned (pins := [])).weak hl (fun j v e => ?_), T.keep _ _ _ stG fun b hb o e => (pinned b hb o e).1, fun b hb => ?_, w'⟩
        · rw [← hwK] at e
          exact (wipe_some e).1
        · obtain ⟨o, e, _⟩ := T.obj _ _ stG b hb
          exact (pinned b hb o e).2
      cases b with
      | false =>
        simp only [Bool.false_eq_true, if_false] at qL ⊢
        exact fin IL qL
      | true =>
        simp only [if_true] at qL ⊢
        refine thnF (pk.run _ sL σK HL _ IL qL) fun z sM ⟨yk, HM, IM, rM, qM⟩ => ?_
        refine thnF (pe.run _ sM σK HM _ IM qM) fun z2 sN ⟨yv, HN, IN, rN, F, ρ, k, kvs, es, nk, kb, ek, hDN, hzN, rtN, hkN, ekN, rkN, nx⟩ => ?_
        subst ek
        exact put_dT (X := X.blk sC HC scope ce fp) (c := c) hu IN hDN rtN hzN hkN ekN rkN rM rN fun sO IO => fin IO nx
  exact codeAny_compStart_dict loop (T.self X.A 0 _ _ _ stD loop)
theorem put_length {k v : PV} {kvs : List (PV × PV)} : (put k v kvs).length ≤ kvs.length + 1 := by
  unfold put
  split
  · rw [List.length_map]; exact Nat.le_succ _
  · rw [List.length_append]; exact Nat.le_refl _
theorem tests_nil {D : Addr} {σ : St} {H : Hp} {K : Bool → Hp → Prop} {ρ : List Addr} {st : Store} {σp : Env} (A : At κ (G.blk D) ρ st H) (R : REnv κ (Fo (G.blk D).B ρ) ρ H σp σ) (h : ∀ ρ' H', Ext ρ H ρ' H' → At κ (G.blk D) ρ' st H' → K true H') : tTs κ (G.blk D) cs [] σ H K := ⟨ρ, st, σp, A, R, fun ρ' H' e A' => h ρ' H' e A'⟩
theorem dcT_imp {ix : List Nat} {it : DI} {tgd : DTg} {dk dv : DE} : ∀ σ H Q, tFD (cnOf X c) G cs (Dn.D.dc true ix it tgd dk dv) σ H Q →
    tDcT X c (tI (cnOf X c) G cs it) (fun v σ H Q => ∃ D, gW ix (cnOf X c) (G.blk D) cs tgd v σ H Q) (fun σ H Q => ∃ D, tTs (cnOf X c) (G.blk D) cs [] σ H Q) (tIn (cnOf X c) G cs dk) (tIn (cnOf X c) G cs dv) ix σ H Q := by
  rintro σ H Q ⟨ρ, st, σp, A, R, o⟩
  refine ⟨ρ, st, σp, A, R, o.bind.mono fun pr st1 ρ1 H1 e1 A1 o1 J hJ D hD => ?_⟩
  obtain ⟨xs, src⟩ := pr
  have hB : ∀ a, H1 a ≠ none → (G.blk D).B a → G.B a := fun a h z => z.elim id fun z => absurd (by rw [z]; exact hD) h
  have h0D : G.H0 D = none := A1.ext.free hD
  split at o1
  · rename_i hh
    simp only [Bool.and_eq_true, decide_eq_true_eq] at hh
    obtain ⟨hsrc, hlen⟩ := hh
    have hsrc : src = none := by cases src with | none => rfl | some _ => cases hsrc
    subst hsrc
    have hlen : xs.length ≤ 1000000 := hlen
    let P : List (PV × PV) → Store → Prop := fun kvs st' => ∀ ρ' H' es, Ext ρ1 H1 ρ' H' → At (cnOf X c) (G.blk D) ρ' st' H' → H' D = some (dTO (cnOf X c) D es) → RTs (cnOf X c) (Fo (G.blk D).B ρ') ρ' H' kvs es → Q (.ref D) H'
    let lp := Dn.D.dcL true tgd dk dv cs (Dn.D.wipe σp ix)
    have nt : ∀ es : List E3, ∀ xs, (dTO (cnOf X c) D es) ≠ .tup xs := fun _ _ z => nomatch z
    have nf : ∀ es : List E3, ∀ q u, (dTO (cnOf X c) D es) ≠ .frz q u := fun _ _ _ z => nomatch z
    let W : Nat → Hp → Prop := fun i H => ∃ ρ st acc es, Ext ρ1 H1 ρ H ∧ At (cnOf X c) (G.blk D) ρ st H ∧ REnv (cnOf X c) (Fo (G.blk D).B ρ) ρ H (Dn.D.wipe σp ix) (L2.wipe σ ix) ∧ H D = some (dTO (cnOf X c) D es) ∧ RTs (cnOf X c) (Fo (G.blk D).B ρ) ρ H acc es ∧ acc.length ≤ i ∧
      FinR P (lp (xs.drop i) acc st)
    refine ⟨fun i m H => m = xs.length - i ∧ i ≤ xs.length ∧ W i H, ⟨xs.length, by simp, Nat.zero_le _, ρ1, st1, [], [], ext_new hD, ⟨wd_lay A1.wd hD, A1.ext.trans (ext_new hD)⟩, ((wipe_env R ix).mono e1.mono).mono (mono_lay hD), upd_same, by simp only [RTs], Nat.le_refl _, ?_⟩, ?_⟩
    · show FinR P (lp xs [] st1)
      have f := fin_calm o1
      cases q : lp xs [] st1 with
      | ok kvs st' =>
        have q' : Dn.D.dcL true tgd dk dv cs (Dn.D.wipe σp ix) xs [] st1 = .ok kvs st' := q
        rw [q'] at f
        intro ρ' H' es e' A' hv r
        have e2 := ext_del e' hD
        dsimp only [FinR, Out] at f
        obtain ⟨t, k2, ez, _, k3⟩ := f ρ' (del H' D) e2 ⟨wd_del A'.wd (fun a ha z => A1.wd.dom a ha (by rw [z]; exact hD)) hv (nt es) (nf es) notb_dTO, A1.ext.trans e2⟩
        cases ez
        have := k3 rfl es D (r.mono (mono_del hv (nt es) (nf es))) del_at
        rw [upd_del hv] at this
        exact this
      | exc e st' =>
        have q' : Dn.D.dcL true tgd dk dv cs (Dn.D.wipe σp ix) xs [] st1 = .exc e st' := q
        rw [q'] at f; exact f
      | bad =>
        have q' : Dn.D.dcL true tgd dk dv cs (Dn.D.wipe σp ix) xs [] st1 = .bad := q
        rw [q'] at f; exact f
    · rintro i m H2 ⟨rfl, hi, ρ2, st2, acc, es, e2, A2, R2, hv, ra, hl, fin⟩
      have hi : i ≤ xs.length := hi
      by_cases hlt : i < xs.length
      · refine .inr ?_
        have hdrop : xs.drop i = xs[i] :: xs.drop (i + 1) := List.drop_eq_getElem_cons hlt
        rw [hdrop] at fin
        have fin : FinR P ((tgd cs xs[i] (Dn.D.wipe σp ix) st2).bind fun σ1 st => (dk cs σ1 st).bind fun y st => (dv cs σ1 st).bind fun z st =>
            if keyT true y then lp (xs.drop (i + 1)) (put y z acc) st else .bad) := fin
        obtain ⟨go, yl⟩ := hJ.go (G.blk D).B i ρ2 st2 H2 hB e2 A2.wd rfl hlt
        refine ⟨go, W (i + 1), fun H' w => ⟨xs.length - (i + 1), by omega, rfl, hlt, w⟩, fun x H3 hy => ?_⟩
        obtain ⟨e3, W3, pv, ep, rp⟩ := yl x H3 hy
        rw [List.getElem?_eq_getElem hlt] at ep
        cases ep
        have A3 := A2.step e3 W3
        refine ⟨D, _, ⟨ρ2, st2, Dn.D.wipe σp ix, xs[i], A3, R2.mono e3.mono, rp, (fin_bind fin).mono fun σ4 st4 ρ4 H4 e4 A4 f4 σ4' R4 => ?_⟩, fun σ5 H5 hw q => ⟨hw.trans (wipe2 ix), q⟩⟩
        refine ⟨D, tests_nil A4 R4 fun ρ5 H5 e5 A5 => ?_⟩
        show tIn (cnOf X c) G cs dk σ4' H5 _
        refine ⟨D, ρ5, st4, σ4, A5, R4.mono e5.mono, (fin_bind f4).mono fun y st6 ρ6 H6 e6 A6 f6 ky ry => ?_⟩
        refine ⟨D, ρ6, st6, σ4, A6, (R4.mono e5.mono).mono e6.mono, (fin_bind f6).mono fun z st7 ρ7 H7 e7 A7 f7 vz rz => ?_⟩
        have eA := ((((e3.trans e4).trans e5).trans e6).trans e7)
        split at f7
        · rename_i hk
          have ry2 := ry.mono (e7.mono (κ := cnOf X c) (B := (G.blk D).B))
          have hk' := hk
          cases y <;> simp only [keyT, if_true, Bool.false_eq_true] at hk'
          obtain ⟨nk, ek, d8⟩ := keyOk_nk 8 _ hk'
          have ry3 := ry2
          simp only [RV] at ry3
          obtain ⟨kb, vs', rfl, h4, h5⟩ := ry3
          have hv7 : H7 D = some (dTO (cnOf X c) D es) := eA.keep D _ hv (blk_at A7) fun _ z => HO.noConfusion z
          have ra7 := ra.mono (eA.mono (κ := cnOf X c) (B := (G.blk D).B))
          refine ⟨_, ρ7, _, acc, es, nk, kb, rfl, hv7, by rw [← ra.length]; exact Nat.lt_of_lt_of_le (by omega) (Nat.le_trans hlen big), ra7, hk, ek, ry2, ?_⟩
          exact ⟨ρ7, st7, _, _, ext_turn (e2.trans eA) hD, ⟨wd_turn A7.wd hv7 (nt es) (nf es) notb_dTO, ext_turn A7.ext h0D⟩, (R2.mono eA.mono).mono (mono_turn hv7 (nt es) (nf es)), upd_same, (ra7.put ek ry2 rz).mono (mono_turn hv7 (nt es) (nf es)), Nat.le_trans put_length (by omega), f7⟩
        · exact f7.elim
      · refine .inl ?_
        have hdrop : xs.drop i = [] := List.drop_eq_nil_of_le (Nat.le_of_not_lt hlt)
        rw [hdrop] at fin
        have fin : P acc st2 := fin
        exact ⟨hJ.stop (G.blk D).B i ρ2 st2 H2 hB e2 A2.wd rfl (Nat.le_of_not_lt hlt), fin ρ2 H2 es e2 A2 hv ra⟩
  · exact o1.elim
theorem pe_dcT {kx vx tg iter : Expr} {ifs : List Expr} {own : List (Str × Nat)} {pos : Pos} {wi : TI} {g : TG} {tt : TT} {tk tv : TE} (hu : X.A.units + 64 < cLine) (hc : X.calm = true) (hN : X.N.Nodup) (hi : PI X tg iter wi) (ok : BlkOk X.N X.env.scope scope own)
    (hg : ∀ (s : Shared) (H : Hp) (C : Addr) (cl : List (Str × Addr)) (fp : List Addr), PG (X.blk s H scope (compEnvC scope cl C X.env) fp) tg g) (ht : ∀ (s : Shared) (H : Hp) (C : Addr) (cl : List (Str × Addr)) (fp : List Addr), PTs (X.blk s H scope (compEnvC scope cl C X.env) fp) ifs tt)
    (hk : ∀ (s : Shared) (H : Hp) (C : Addr) (cl : List (Str × Addr)) (fp : List Addr), PE (X.blk s H scope (compEnvC scope cl C X.env) fp) kx tk)
    (he : ∀ (s : Shared) (H : Hp) (C : Addr) (cl : List (Str × Addr)) (fp : List Addr), PE (X.blk s H scope (compEnvC scope cl C X.env) fp) vx tv) (hs : ∀ x, foldedSetIterable iter X.env x = pure x) :
    PE X (.DictComp kx vx [⟨tg, iter, ifs, 0⟩] scope pos) (tDcT X c wi g tt tk tv (own.map (·.2))) := by
  refine ⟨fun pins s σ H Q I h => ?_⟩
  rw [arm_eval_DictComp]
  refine dcT_core hu hc hN I hi ok hg ht hk he hs h fun D C s' m H' I' q hn f => ⟨m, hn, fun h'' sb => ?_⟩
  obtain ⟨f0, f1, f2, f3, f4, f5⟩ := f
  exact ⟨.ref D, H', I'.turned (t' := s'.toks) (fun b o hb e => (sb.2 b hb).trans e) f0 f1 f3 f4 f5, rfl, q⟩
theorem SED.dcT {kx vx tg iter : Expr} {pos : Pos} {own : List (Str × Nat)} {ix : List Nat} {it : DI} {tgd : DTg} {dk dv : DE} (ok : blkD N sc scope own = true) (hix : own.map (·.2) = ix) (hi : SI Γ N sc tg iter it) (ht : Keeps ix tg tgd Γ N (relSc scope sc))
    (hk : SE Γ N (relSc scope sc) kx dk) (he : SE Γ N (relSc scope sc) vx dv) (hfs : ∀ env x, foldedSetIterable iter env x = pure x := by intro _ _; rfl) : SED Γ N sc (.DictComp kx vx [⟨tg, iter, [], 0⟩] scope pos) (Dn.D.dc true ix it tgd dk dv) := fun n c fa G X g => by
  subst hix
  exact (pe_dcT (c := c) g.u64 g.calm g.nd (hi n c fa G X g) (by rw [g.hN, g.hsc]; exact blkOk_by (blkD_c ok)) (fun s H C cl fp => PG_ex fun D : Addr => ht.pg (g.blk ok D s H C cl fp)) (fun s H C cl fp => PTs_ex fun D : Addr => STs.pts (ts := []) (ds := []) trivial (g.blk ok D s H C cl fp))
    (fun s H C cl fp => PE_ex fun D : Addr => hk n c fa _ _ (g.blk ok D s H C cl fp)) (fun s H C cl fp => PE_ex fun D : Addr => he n c fa _ _ (g.blk ok D s H C cl fp)) (hfs _)).imp dcT_imp
theorem do_dc {t : Bool} {ix : List Nat} {it : DI} {tgd : DTg} {dk dv : DE} : DicOnly (Dn.D.dc t ix it tgd dk dv) := fun cs σ st v st' h => dicOnly_bind h fun a st1 _ q => by
  split at q
  · exact dicOnly_bind q fun ys st2 _ q => by cases q; exact ⟨_, _, rfl⟩
  · cases q
end
end Dn


namespace Dn
open PySem L2
namespace O
def abs : PV → Option PV
  | .int i => some (.int (if i < 0 then -i else i))
  | _ => none
def dicE : List (PV × PV) → Bool
  | [] => true
  | [(.int a, .int b)] => decide (a.natAbs < 1000000000000) && decide (b.natAbs < 1000000000000)
  | _ => false
@[simp] theorem dicE_nil : dicE [] = true := rfl
def dicSz : List (PV × PV) → Nat
  | [] => 4
  | _ => 40
@[simp] theorem dicSz_nil : dicSz [] = 4 := rfl
mutual
/-- a bound of how long it is, shown -/
def msz : PV → Nat
  | .int i => if i.natAbs < 1000000000000 then 13 else (PyData.shown (.int i)).length
  | .str x => (PyData.shown (.str x)).length
  | .tup xs => mszL xs + 3
  | .lst xs => mszL xs + 3
  | .non => 4
  | .bl _ => 5
  | .dic _ kvs => dicSz kvs
  | .ref _ => 4
  | .scr _ => 4
def mszL : List PV → Nat
  | [] => 0
  | x :: xs => msz x + 2 + mszL xs
end
mutual
/-- its ints can be shown -/
def okInt : PV → Bool
  | .int i => decide (i.natAbs < 1000000000000) || decide (i.natAbs.log2 < 1920)
  | .tup xs => okIntL xs
  | .lst xs => okIntL xs
  | .non => true
  | .bl _ => true
  | .str _ => true
  | .dic _ _ => true
  | .ref _ => true
  | .scr _ => true
def okIntL : List PV → Bool
  | [] => true
  | x :: xs => okInt x && okIntL xs
end
mutual
/-- data that can be shown: empty dicts, too -/
def flatE : Nat → PV → Bool
  | n, .tup xs => (match n with | 0 => false | n + 1 => flatEL n xs)
  | n, .lst xs => (match n with | 0 => false | n + 1 => flatEL n xs)
  | _, .non => true
  | _, .bl _ => true
  | _, .int _ => true
  | _, .str s => signsOk s.cps.toList
  | _, .dic t kvs => !t && dicE kvs
  | _, .ref _ => false
  | _, .scr _ => false
def flatEL : Nat → List PV → Bool
  | _, [] => true
  | n, x :: xs => flatE n x && flatEL n xs
end
def rep (x : PV) : Str := PyData.shown (toPD x)
def repr (x : PV) : Option PV := if (flatE 60 x && okInt x) && Nat.ble (msz x) 10000000 then some (.str (rep x)) else none
end O
mutual
theorem flatE_of : ∀ (n : Nat) (x : PV), flat n x = true → O.flatE n x = true
  | n, .non, _ => by simp [O.flatE]
  | n, .bl a, _ => by simp [O.flatE]
  | n, .int a, _ => by simp [O.flatE]
  | n, .str a, h => by simpa [O.flatE, flat] using h
  | n, .tup xs, h => by
    cases n with
    | zero => simp [flat] at h
    | succ n => simp only [flat] at h; simp only [O.flatE]; exact flatE_ofL n xs h
  | n, .lst xs, h => by
    cases n with
    | zero => simp [flat] at h
    | succ n => simp only [flat] at h; simp only [O.flatE]; exact flatE_ofL n xs h
  | n, .dic t kvs, h => by simp [flat] at h
  | n, .ref k, h => by simp [flat] at h
  | n, .scr k, h => by simp [flat] at h
theorem flatE_ofL : ∀ (n : Nat) (x : List PV), flatL n x = true → O.flatEL n x = true
  | n, [], _ => by simp [O.flatEL]
  | n, x :: xs, h => by
    simp only [flatL, Bool.and_eq_true] at h
    simp [O.flatEL, flatE_of n x h.1, flatE_ofL n xs h.2]
end
mutual
/-- as Dp, empty dicts among it -/
inductive DpE (K : PySem.W.Frag) (H : Hp) : V → PyData → Prop
  | non : DpE K H .non .none
  | bl (b : Bool) : DpE K H (.bl b) (.bool b)
  | int (i : Int) : DpE K H (.int i) (.int i)
  | str (x : Str) : DpE K H (.str x) (.str x)
  | lst {a : Addr} {xs : List V} {ds : List PyData} : SqL K H a xs → DpEs K H xs ds → DpE K H (.ref a) (.list ds)
  | tup {a : Addr} {xs : List V} {ds : List PyData} : SqT K H a xs → DpEs K H xs ds → DpE K H (.ref a) (.tuple ds)
  | dic {a : Addr} : Rd H a (.dK []) → DpE K H (.ref a) (.dict [])
  | dic1 {a : Addr} (k v : Int) : Rd H a (.dK [(.inl k, .int v)]) → DpE K H (.ref a) (.dict [(.int k, .int v)])
inductive DpEs (K : PySem.W.Frag) (H : Hp) : List V → List PyData → Prop
  | nil : DpEs K H [] []
  | cons {v : V} {vs : List V} {d : PyData} {ds : List PyData} : DpE K H v d → DpEs K H vs ds → DpEs K H (v :: vs) (d :: ds)
end
section
variable {X : Cx} {pins : List (Addr × Obj)} {σ : St} {H : Hp} {s : Shared}
theorem sys_not {a : Addr} {o : Obj} {T : String} (I : Inv X pins σ H s) (sy : SysOk X.K) (ho : s.heap.get? a = some o) (hc : o.cls = .type T) (hT : T ≠ "dict") : a ≠ sysModules := fun e => by
  obtain ⟨u, h1, h2⟩ := sy
  have h3 := I.kIn _ _ h1
  rw [e, h3] at ho
  cases ho
  rw [h2] at hc
  exact hT (Value.type.inj hc).symm
mutual
theorem DpE.reads (I : Inv X pins σ H s) (sy : SysOk X.K) : ∀ (d : PyData) (v : V) (u : Value), DpE X.K H v d → RelV v u → ∃ as, Reads s.heap u d as ∧ sysModules ∉ as
  | .none, _, _, h, r => by cases h; cases r; exact ⟨_, .none, by simp⟩
  | .bool b, _, _, h, r => by cases h; cases r; exact ⟨_, .bool b, by simp⟩
  | .int i, _, _, h, r => by cases h; obtain ⟨t, rfl⟩ := r; exact ⟨_, .int i t, by simp⟩
  | .str x, _, _, h, r => by cases h; obtain ⟨t, rfl⟩ := r; exact ⟨_, .str x t, by simp⟩
  | .list ds, _, _, h, r => by
    cases h with
    | lst hs ha =>
      cases r
      obtain ⟨its, rv, ⟨o, n, ho, hc, _, hd⟩, _⟩ := I.list hs
      obtain ⟨as, hr, nm⟩ := DpEs.reads I sy ds _ its ha rv
      exact ⟨_, .list ho hc hd hr, fun z => (List.mem_cons.mp z).elim (fun e => sys_not I sy ho hc (by decide) e.symm) nm⟩
  | .tuple ds, _, _, h, r => by
    cases h with
    | tup hs ha =>
      cases r
      obtain ⟨its, rv, ⟨o, ho, hc, n, hd⟩, _⟩ := I.tuple hs
      obtain ⟨as, hr, nm⟩ := DpEs.reads I sy ds _ its ha rv
      exact ⟨_, .tuple ho hc hd hr, nm⟩
  | .dict kvs, _, _, h, r => by
    cases h with
    | dic hs =>
      cases r
      obtain ⟨_, ns, vs, kv, hd⟩ := L2.dk_rd I.hok hs
      have e : vs = [] := by cases kv; rfl
      subst e
      obtain ⟨o, es, ep, ho, hx, hdt, _, hp, _⟩ := hd
      have e0 : es.toList = [] := by
        generalize es.toList = l at hp
        cases hp
        rfl
      refine ⟨_, .dict (kvs := []) (as := []) (bs := []) ho hx.1 hdt (by rw [e0]; exact .nil) (by rw [e0]; exact .nil), fun z => ?_⟩
      simp only [List.append_nil, List.mem_singleton] at z
      rw [← z] at ns
      simp at ns
    | dic1 k v hs =>
      cases r
      obtain ⟨_, ns, vs, kv, hd⟩ := L2.dk_rd I.hok hs
      obtain ⟨t, e⟩ : ∃ t, vs = [(.inl k, .int v t)] := by
        unfold KV at kv
        cases kv with
        | @cons x q xs ys h1 h2 =>
          cases h2
          obtain ⟨q1, q2⟩ := q
          obtain ⟨h3, t, h4⟩ := h1
          simp only at h3 h4
          subst h3
          subst h4
          exact ⟨t, rfl⟩
      subst e
      obtain ⟨o, es, ep, ho, hx, hdt, _, hp, _⟩ := hd
      have e0 : ∃ (t2 : Tok) (y : DictEntry), es.toList = [y] ∧ y.key = .int k t2 ∧ y.val = .int v t := by
        generalize es.toList = l at hp
        cases hp with
        | cons h1 h2 h3 =>
          cases h3
          rcases keyIs_shape (k := .inl k) (show keyIs (.inl k) _ = true from h1) with ⟨i, t2, ei, ek⟩ | ⟨x, t2, ei, ek⟩
          · cases ei
            exact ⟨t2, _, rfl, ek, h2⟩
          · cases ei
      obtain ⟨t2, y, e1, e2, e3⟩ := e0
      refine ⟨_, .dict (kvs := [(.int k, .int v)]) ho hx.1 hdt (by rw [e1]; simp only [List.map_cons, List.map_nil, e2]; exact .cons (.int k t2) .nil) (by rw [e1]; simp only [List.map_cons, List.map_nil, e3]; exact .cons (.int v t) .nil), fun z => ?_⟩
      simp only [List.append_nil, List.mem_singleton] at z
      rw [← z] at ns
      simp at ns
theorem DpEs.reads (I : Inv X pins σ H s) (sy : SysOk X.K) : ∀ (ds : List PyData) (vs : List V) (us : List Value), DpEs X.K H vs ds → Vals vs us → ∃ as, ReadsAll s.heap us ds as ∧ sysModules ∉ as
  | [], _, _, h, r => by cases h; cases r; exact ⟨_, .nil, by simp⟩
  | d :: ds, _, _, h, r => by
    cases h with
    | cons h1 h2 =>
      cases r with
      | cons r1 r2 =>
        obtain ⟨as, q1, n1⟩ := DpE.reads I sy d _ _ h1 r1
        obtain ⟨bs, q2, n2⟩ := DpEs.reads I sy ds _ _ h2 r2
        exact ⟨_, .cons q1 q2, fun z => (List.mem_append.mp z).elim n1 n2⟩
end
end
section
variable {κ : Cn}
end
section
variable {Γ : Pg} {n : Nat} {c fa : Nat → Addr} {G : Fr} {N : List Str} {sc : Scope} {X : Cx} {κ : Cn} {cs : CS}
variable {a b e d : Expr} {da db dd : DE} {pos p : Pos} {es : List Expr} {ds : DEs}
end

namespace D
end D
section
variable {Γ : Pg} {n : Nat} {c fa : Nat → Addr} {G : Fr} {N : List Str} {sc : Scope} {X : Cx} {κ : Cn} {cs : CS}
variable {a b e d : Expr} {da db dd : DE} {pos p : Pos} {es : List Expr} {ds : DEs}
end
end Dn


namespace Dn
open PySem L2
namespace O
def first (x : PV) : List PV → Option Nat
  | [] => none
  | y :: ys => if eqv y x then some 0 else (first x ys).map (· + 1)
def index : PV → PV → Option PV
  | .lst xs, x => if flat 59 x && flatL 59 xs then (first x xs).map fun i : Nat => PV.int (i : Int) else none
  | _, _ => none
end O
namespace D
def lstV (st : Store) (x : PV) : Bool := match deref st x with
  | .lst _ => true
  | _ => false
def index (o e : DE) : DE := fun c σ st => (o c σ st).bind fun x st => if lstV st x then (e c σ st).bind fun y st => .of st (O.index (deref st x) y) else .bad
end D
theorem index_inv {p q r : PV} (h : O.index p q = some r) : ∃ ys j, p = .lst ys ∧ flat 59 q = true ∧ flatL 59 ys = true ∧ O.first q ys = some j ∧ r = .int (j : Nat) := by
  unfold O.index at h
  split at h
  · split at h
    · rename_i hf
      simp only [Bool.and_eq_true] at hf
      obtain ⟨j, ej, rfl⟩ := Option.map_eq_some_iff.mp h
      exact ⟨_, j, rfl, hf.1, hf.2, ej, rfl⟩
    · cases h
  · cases h
theorem first_ok {x : PV} (hx : flat 59 x = true) : ∀ (xs : List PV) (j : Nat), flatL 59 xs = true → O.first x xs = some j → ∃ z, (toPDs xs)[j]? = some z ∧ PyData.eqv z (toPD x) = true ∧ ∀ (m : Nat) (z' : PyData), m < j → (toPDs xs)[m]? = some z' → PyData.eqv z' (toPD x) = false
  | [], j, _, h => by cases h
  | y :: ys, j, hf, h => by
    simp only [flatL, Bool.and_eq_true] at hf
    simp only [O.first] at h
    simp only [toPDs]
    split at h
    · rename_i e
      cases h
      rw [eqv_pd 59 59 y x hf.1 hx] at e
      exact ⟨_, rfl, e, fun m z' hm => absurd hm (Nat.not_lt_zero _)⟩
    · rename_i e
      obtain ⟨i, ei, rfl⟩ := Option.map_eq_some_iff.mp h
      obtain ⟨z, h1, h2, h3⟩ := first_ok hx ys i hf.2 ei
      refine ⟨z, by simpa using h1, h2, fun m z' hm hz => ?_⟩
      cases m with
      | zero =>
        simp only [List.getElem?_cons_zero, Option.some.injEq] at hz
        subst hz
        rw [eqv_pd 59 59 y x hf.1 hx] at e
        simpa using e
      | succ m => exact h3 m z' (by omega) (by simpa using hz)
section
variable {Γ : Pg} {n : Nat} {c fa : Nat → Addr} {G : Fr} {N : List Str} {sc : Scope} {X : Cx} {κ : Cn} {cs : CS}
variable {a b e d : Expr} {da db dd : DE} {pos p : Pos} {es : List Expr} {ds : DEs}
theorem shaped_lst {xs : List PV} (h : flatL 59 xs = true) : SeqAt.shaped (.list (toPDs xs)) = true := by
  have e : flat 60 (.lst xs) = true := h
  have := shaped60 e
  simpa only [toPD] using this
theorem SE.index {apos : Pos} (ha : SE Γ N sc a da) (hb : SE Γ N sc b db) (hm : MRows a ("index" : Str) apos b [] pos) : SE Γ N sc (.Call (.Attribute a ("index" : Str) apos) [b] [] pos) (D.index da db) := fun n c fa G X g => by
  refine (pe_bm PySem.F.plainAttrs_list PySem.F.slot_list_index PySem.F.type_list_index (mt_indexD g.u65) (ha n c fa G X g) (pa_cons (hb n c fa G X g) pa_nil (hm.st _)) (hm.base _) (hm.few _) hm.line (hm.st _) (hm.pl _)).imp ?_
  rintro σ H Q ⟨ρ, st, σp, A, R, o⟩
  refine tE_bind A R o fun v st1 ρ1 H1 u e1 A1 R1 ru o1 => ?_
  split at o1
  · rename_i hl
    have r1 := RR.of A1.wd ru
    unfold D.lstV at hl
    split at hl
    · rename_i xs eq
      rw [eq] at r1
      obtain ⟨a', us, rfl, h1, h2⟩ := rr_lst r1
      refine ⟨.inl ⟨rfl, _, SqL.of h1⟩, tE_bind A1 R1 o1 fun w st2 ρ2 H2 z e2 A2 R2 rz o2 => ?_⟩
      obtain ⟨res, ef, k⟩ := o2.of
      have r2 := RR.of A2.wd (ru.mono e2.mono)
      obtain ⟨ys, j, eq2, hf1, hf2, ej, rfl⟩ := index_inv ef
      rw [eq2] at r2
      obtain ⟨zz, q1, q2, q3⟩ := first_ok hf1 ys j hf2 ej
      have dp := dp_rr (n := 60) (p := .lst ys) (by simpa only [flat] using hf2) r2
      simp only [toPD] at dp
      exact ⟨a', z, toPD w, toPDs ys, j, zz, rfl, rfl, dp, dp_of 59 w z hf1 rz, shaped_lst hf2, shapedS hf1, q1, q2, q3, k ρ2 H2 Ext.refl A2 _ (by simp only [RV])⟩
    · cases hl
  · exact o1.elim
end
end Dn


namespace L2
open PySem PySem.Spec PyProof.Rows
theorem tuple_mul_same (l : Addr) (items : Array Value) (n : Nat) (dd : Option Addr) (sl : Array (Option Value)) (u : Tok) :
    Meets (Builtin.«tuple.__mul__» ⟨[.ref l, .int 1 u], []⟩) (fun _ R s => s.heap.get? l = some { cls := .type "tuple", dict := dd, data := .seq items n, slots := sl } ∧ R (.ok (.ret (Value.ref l))) s) :=
  .of_wp fun prog w A R s h => by
    obtain ⟨hp, g, d, tk, os⟩ := s
    obtain ⟨hl, h⟩ := h
    have f1 := AutoSeq1.idx_int
    wp_walk using wpAny_loadPart' hl
    repeat (first
      | (refine wpAny_ite_false (decide_eq_false (by simp)) ?_; wp_walk using wpAny_loadPart' hl)
      | (refine wpAny_ite_true (decide_eq_true (by simp)) ?_; wp_walk using wpAny_loadPart' hl))
    exact ⟨_, rfl, h⟩
def rRep1 (K : PySem.W.Frag) : R2 := fun x y H Q => ∃ l xs, x = .ref l ∧ y = .int 1 ∧ SqT K H l xs ∧ Q (.ref l) H
section
variable {X : Cx}
theorem op_rep1 : OpR X (binaryOp .Mult) (rRep1 X.K) := by
  intro pins s σ H x y v u Q I rx ry h
  obtain ⟨l, xs, rfl, rfl, hT, q⟩ := h
  cases rx
  obtain ⟨t, rfl⟩ := ry
  obtain ⟨its, r, ⟨⟨cls, dd, data, sl⟩, ho, hc, n, hd⟩, hs⟩ := I.tuple hT
  simp only at hc hd
  subst hc hd
  exact wpAny_binaryOp_repeat_ref (T := "tuple") (U := "int") (by decide) ⟨_, ho, rfl⟩ (fun s' => typeIs_int s' 1 t) noFill_tuple_mul F.fills_int_mul F.slot_int_rmul repeat_tuple F.slot_int_index.lookup
    (call_meets F.slot_int_rmul (typeIs_int s 1 t) F.entry_int_rmul (F.args_int_rmul_2 _ _) (int_rmul_tuple 1 t l its.toArray n dd sl)
      ⟨ho, rfl, ⟨_, ho, rfl⟩, call_meets F.slot_tuple_mul ⟨_, ho, rfl⟩ F.entry_tuple_mul (F.args_tuple_mul_2 _ _) (tuple_mul_same l its.toArray n dd sl t) ⟨ho, ⟨.ref l, H, I.tok _, rfl, q⟩⟩⟩)
end
end L2
namespace Dn
open PySem L2
namespace O
def mulx : PV → PV → Option PV
  | .tup xs, .int k => if k = 1 then some (.tup xs) else mul (.tup xs) (.int k)
  | .lst xs, .int k => if decide (0 ≤ k) && (decide (k ≤ 1000) && decide (xs.length ≤ 1000)) then some (.lst (List.replicate k.toNat xs).flatten) else none
  | x, y => mul x y
end O
section
variable {Γ : Pg} {n : Nat} {c fa : Nat → Addr} {G : Fr} {N : List Str} {sc : Scope} {X : Cx} {κ : Cn} {cs : CS}
variable {a b e d : Expr} {da db dd : DE} {pos p : Pos} {es : List Expr} {ds : DEs}
theorem o_mulx : Op2 Γ N sc (binaryOp .Mult) O.mulx := fun n c fa G X g => by
  obtain ⟨r, h1, h2⟩ := o_mul (Γ := Γ) (N := N) (sc := sc) n c fa G X g
  refine ⟨_, OpR.or h1 (OpR.or op_rep1 op_rep), ?_⟩
  intro ρ st H p q v x y Q A rp rq ef k
  unfold O.mulx at ef
  split at ef
  · split at ef
    · rename_i xs k' hk
      subst hk
      cases ef
      obtain ⟨a, us, rfl, h3, r3⟩ := rr_tupD rp
      exact .inr (.inl ⟨a, us, rfl, rr_int rq, h3.sqT, now A k (by simp only [RV]; exact ⟨a, us, rfl, h3, r3⟩)⟩)
    · exact .inl (h2 ρ st H _ _ v x y Q A rp rq ef k)
  · split at ef
    · rename_i hs
      cases ef
      simp only [Bool.and_eq_true, decide_eq_true_eq] at hs
      obtain ⟨a, us, rfl, h3, r3⟩ := rr_lst rp
      refine .inr (.inr ⟨a, _, us, rfl, rr_int rq, h3, by omega, by omega, ?_, fun p hp => newL A k (RVs.flatten _ r3) hp⟩)
      rw [← r3.length]
      exact Nat.le_trans (Nat.mul_le_mul hs.2.2 (by omega : _ ≤ 1000)) big
    · cases ef
  · exact .inl (h2 ρ st H _ _ v x y Q A rp rq ef k)
end
end Dn


namespace PySem.W
open PySem PySem.Calls PyProof.Rows PySem.SeqAt
section
variable {prog : Program} {w : World} {A : Around} {E : Value → Shared → Prop} {s : Shared}
end
end PySem.W
namespace Dn
open PySem L2
open PySem.W (alike alikeAll dataLt dataLe EachIs AllAlike Sortable SortsAt copyHeap sortingHeap copyHeap_at sorting_copy_old list_sort_vals sortVals sortVals_data sortVals_length each_map bound_map sort_maps)
open PyProof.Rows (sortedAll collect_list entry_proto_collect' entry_list_iadd' listItems_at listUpdate_at get?_update_seq seqObj size_push' kind_sorted plain_sorted entry_sorted args_sorted1 args_list_sort slot_list_sort entry_list_sort)
namespace O
end O
section
variable {prog : Program} {w : World} {A : Around} {E : Value → Shared → Prop} {s : Shared}
end
section
variable {Γ : Pg} {n : Nat} {c fa : Nat → Addr} {G : Fr} {N : List Str} {sc : Scope} {X : Cx} {κ : Cn} {cs : CS}
variable {a b e d : Expr} {da db dd : DE} {pos p : Pos} {es : List Expr} {ds : DEs}
end
end Dn


namespace Dn
open PySem L2
namespace O
end O
section
variable {Γ : Pg} {n : Nat} {c fa : Nat → Addr} {G : Fr} {N : List Str} {sc : Scope} {X : Cx} {κ : Cn} {cs : CS}
variable {a b e d : Expr} {da db dd : DE} {pos p : Pos} {es : List Expr} {ds : DEs}
end
end Dn


namespace Dn
open PySem L2
namespace D
end D
section
variable {Γ : Pg} {n : Nat} {c fa : Nat → Addr} {G : Fr} {N : List Str} {sc : Scope} {X : Cx} {κ : Cn} {cs : CS}
variable {a b e d : Expr} {da db dd : DE} {pos p : Pos} {es : List Expr} {ds : DEs}
theorem yld_zip {B : Addr → Prop} {ρ0 : List Addr} {H0 : Hp} {J : It} {xs ys : List V} {ps qs : List PV} (r : RVs κ (Fo B ρ0) ρ0 H0 ps xs) (r' : RVs κ (Fo B ρ0) ρ0 H0 qs ys)
    (hg : ∀ (i : Nat) ρ H x y, Ext ρ0 H0 ρ H → xs[i]? = some x → ys[i]? = some y → J.go i H) (hy : ∀ (i : Nat) ρ H v H' x y, Ext ρ0 H0 ρ H → xs[i]? = some x → ys[i]? = some y → J.yld i H v H' → ∃ T ob, v = .ref T ∧ H T = none ∧ ob.dict = none ∧ H' = upd H T (.frz ob (.tup [x, y])))
    (hs : ∀ (i : Nat) ρ H, Ext ρ0 H0 ρ H → (xs.length ≤ i ∨ ys.length ≤ i) → J.stop i H) : Yld κ B J (D.zipP ps qs) none ρ0 H0 where
  go := fun B' i ρ st H hB e A _ hi => by
    rw [zipP_length] at hi
    have h1 : i < ps.length := by omega
    have h2 : i < qs.length := by omega
    obtain ⟨x, ex, rx⟩ := (r.mono (e.mono' hB)).get (i := i) (x := ps[i]) (by simp [h1])
    obtain ⟨y, ey, ry⟩ := (r'.mono (e.mono' hB)).get (i := i) (x := qs[i]) (by simp [h2])
    refine ⟨hg i ρ H x y e ex ey, fun v H' hv => ?_⟩
    obtain ⟨T, ob, rfl, hT, od, rfl⟩ := hy i ρ H v H' x y e ex ey hv
    have e2 : Ext ρ H ρ (upd H T (.frz ob (.tup [x, y]))) := ext_new hT
    refine ⟨e2, A.new hT, _, zipP_get ps qs i _ _ (List.getElem?_eq_getElem h1) (List.getElem?_eq_getElem h2), ?_⟩
    simp only [RV]
    exact ⟨T, _, rfl, .inl ⟨ob, od, upd_same⟩, RVs.cons (rx.mono e2.mono) (RVs.cons (ry.mono e2.mono) RVs.nil)⟩
  stop := fun B' i ρ st H hB e A _ hi => by
    rw [zipP_length, r.length, r'.length] at hi
    exact hs i ρ H e (by omega)
theorem SI.zip {elts : List Expr} {kk : Nat} {tpos : Pos} (hx : okB Γ sc ("zip" : Str) = true) (ha : SE Γ N sc a da) (hb : SE Γ N sc b db) (hst : ∀ env, starEach [a, b] env = [(false, eval a env), (false, eval b env)] := by intro _; rfl) (hst2 : ∀ env, starEach [b] env = [(false, eval b env)] := by intro _; rfl) :
    SI Γ N sc (.Tuple elts kk tpos) (.Call (.Name ("zip" : Str) p) [a, b] [] pos) (D.zip da db) := fun n c fa G X g => by
  obtain ⟨g1, g2, g3, g4⟩ := okB_gl g hx
  have e1 : starEach [a, b] X.env = (false, eval a X.env) :: starEach [b] X.env := by rw [hst, hst2]
  refine PI_imp (ZM.pi_zipM g1 g2 (pa_cons (ha n c fa G X g) (pa_cons (hb n c fa G X g) pa_nil (hst2 _)) e1) e1 (by rw [hst2]; rfl)) ?_
  rintro σ H R ⟨ρ, st, σp, A, Rn, o⟩
  refine tE_bind A Rn o fun v st1 ρ1 H1 u e1 A1 R1 ru o1 => ?_
  refine tE_bind A1 R1 o1 fun w st2 ρ2 H2 z e2 A2 R2 rz o2 => ?_
  have ru := ru.mono (e2.mono (κ := cnOf X c) (B := G.B))
  split at o2
  · rename_i xs ys
    simp only [RV] at ru rz
    obtain ⟨a', vs, rfl, h1, r1⟩ := ru
    obtain ⟨b', ws, rfl, h2, r2⟩ := rz
    have k1 : ∀ ρ H, Ext ρ2 H2 ρ H → SqT X.K H a' vs := fun ρ H e => (sqD_mono e.frz h1).sqT
    have k2 : ∀ ρ H, Ext ρ2 H2 ρ H → SqT X.K H b' ws := fun ρ H e => (sqD_mono e.frz h2).sqT
    refine ⟨a', b', vs, ws, rfl, .inr (.inr (.inl ⟨h1.sqT, h2.sqT, o2.ret A2 _ (yld_zip r1 r2 (fun i ρ H x y e ex ey => ?_) (fun i ρ H v H' x y e ex ey hv => ?_) fun i ρ H e h => ?_)⟩))⟩
    · exact ⟨vs, ws, x, y, k1 ρ H e, k2 ρ H e, ex, ey⟩
    · obtain ⟨T, ob, x', y', e1, e2, e3, e4, e5, e6⟩ := hv
      have z1 := e5 vs (k1 ρ H e)
      have z2 := e6 ws (k2 ρ H e)
      rw [ex] at z1; rw [ey] at z2
      cases z1; cases z2
      exact ⟨T, ob, e1, e2, e3, e4⟩
    · exact ⟨vs, ws, k1 ρ H e, k2 ρ H e, h⟩
  · rename_i xs ys
    simp only [RV] at ru rz
    obtain ⟨a', vs, rfl, h1, n1, r1⟩ := ru
    obtain ⟨b', ws, rfl, h2, n2, r2⟩ := rz
    have k1 : ∀ ρ H, Ext ρ2 H2 ρ H → SqL X.K H a' vs := fun ρ H e => SqL.of (e.keep _ _ h1 (e.out (fun z => n1 (.inr z)) (by rw [h1]; simp)) (fun _ z => HO.noConfusion z))
    have k2 : ∀ ρ H, Ext ρ2 H2 ρ H → SqL X.K H b' ws := fun ρ H e => SqL.of (e.keep _ _ h2 (e.out (fun z => n2 (.inr z)) (by rw [h2]; simp)) (fun _ z => HO.noConfusion z))
    refine ⟨a', b', vs, ws, rfl, .inr (.inr (.inr ⟨SqL.of h1, SqL.of h2, o2.ret A2 _ (yld_zip r1 r2 (fun i ρ H x y e ex ey => ?_) (fun i ρ H v H' x y e ex ey hv => ?_) fun i ρ H e h => ?_)⟩))⟩
    · exact ⟨vs, ws, x, y, k1 ρ H e, k2 ρ H e, ex, ey⟩
    · obtain ⟨T, ob, x', y', e1, e2, e3, e4, e5, e6⟩ := hv
      have z1 := e5 vs (k1 ρ H e)
      have z2 := e6 ws (k2 ρ H e)
      rw [ex] at z1; rw [ey] at z2
      cases z1; cases z2
      exact ⟨T, ob, e1, e2, e3, e4⟩
    · exact ⟨vs, ws, k1 ρ H e, k2 ρ H e, h⟩
  · exact o2.elim
end
end Dn


namespace L2
open PySem PySem.Spec PyProof.Rows
section
variable {X : Cx}
end
end L2

namespace Dn
open PySem L2
section
variable {Γ : Pg} {N : List Str} {sc : Scope}
theorem o_isBot : Op2 Γ N sc (compareOp .IsNot) O.isBot := fun n c fa G X g => by
  refine ⟨_, op_isnot_bl, ?_⟩
  intro ρ st H p q v x y Q A rp rq ef k
  unfold O.isBot at ef
  split at ef
  · rename_i b eb
    cases ef
    unfold O.isB at eb
    split at eb
    · rename_i a b
      cases eb
      refine ⟨_, _, rr_bl rp, rr_bl rq, now A k ?_⟩
      simp only [RV]
      cases a <;> cases b <;> rfl
    · cases eb
  · cases ef
end
namespace O
end O
namespace D
end D
section
variable {Γ : Pg} {n : Nat} {c fa : Nat → Addr} {G : Fr} {N : List Str} {sc : Scope} {X : Cx} {κ : Cn} {cs : CS}
variable {a b e d : Expr} {da db dd : DE} {pos p : Pos} {es : List Expr} {ds : DEs}
end
end Dn


namespace L2
open PySem PySem.Spec PyProof.Rows
section
variable {X : Cx}
def cntD (ds : List PyData) (d : PyData) : Nat := ds.countP fun z => PyData.eqv z d
theorem cnt_read {s : Shared} {ds : List PyData} {its : List Value} {d : PyData} (mp : its.map (SeqAt.readOf s.heap) = ds) : its.toArray.toList.countP (fun w => PyData.eqv (SeqAt.readOf s.heap w) d) = cntD ds d := by
  rw [← mp]
  simp [cntD, List.countP_map, Function.comp_def]
def rCtL (K : PySem.W.Frag) : V → List V → Hp → VK → Prop := fun x xs H Q => ∃ (l : Addr) (y : V) (d : PyData) (ds : List PyData), x = .ref l ∧ xs = [y] ∧ Dp K H (.ref l) (.list ds) ∧ Dp K H y d ∧ SeqAt.shaped (.list ds) = true ∧ SeqAt.shaped d = true ∧ Q (.int (cntD ds d : Nat)) H
theorem mt_ctL (hu : X.A.units + 65 < cLine) : MtR X "list.count" (rCtL X.K) := by
  intro pins s σ H x xs v us Q I rx rxs h
  obtain ⟨l, y, d, ds, rfl, rfl, hl, hy, sl, sd, q⟩ := h
  cases rx
  obtain ⟨u, rfl, ru⟩ := vals1 rxs
  obtain ⟨bs, rd⟩ := Dp.reads I d y u hy ru
  have lay : PyData.canLayAll0 ds = true := by have := SeqAt.canLay_of_shaped sl; simpa only [PyData.canLay0] using this
  have room : X.A.units + 1 + min (PyData.depthAll ds) d.depth < cLine := room_in_shaped sd hu
  cases hl with
  | lst hs ha =>
    obtain ⟨its, rel, ⟨⟨cls, dd, data, sls⟩, n, ho, hc, hdn, hdt⟩, _⟩ := I.list hs
    simp only at hc hdt
    subst hc hdt
    obtain ⟨as, ra⟩ := Dp.readsAll I ds _ its ha rel
    have mp : its.map (SeqAt.readOf s.heap) = ds := SeqAt.readsAll_map ds its as lay ra
    refine call_meets PySem.F.slot_list_count ⟨_, ho, rfl⟩ PySem.F.entry_list_count (PySem.F.args_list_count_2 _ _) (SeqAt.list_countAt l its.toArray n dd sls u (fun w => PyData.eqv (SeqAt.readOf s.heap w) d))
      ⟨ho, SeqAt.items_eqAt (vs := its.toArray) (show ReadsAll s.heap its.toArray.toList ds as from ra) rd lay (SeqAt.canLay_of_shaped sd) room, ?_⟩
    rw [cnt_read mp]
    exact ⟨.int (cntD ds d : Nat), H, I.tok _, ⟨_, rfl⟩, q⟩
end
end L2
namespace Dn
open PySem L2
namespace O
def countL : PV → PV → Option PV
  | .lst xs, x => if flat 59 x && flatL 59 xs then some (.int (xs.countP fun y => eqv y x : Nat)) else none
  | _, _ => none
end O
namespace D
def countL (o e : DE) : DE := fun c σ st => (o c σ st).bind fun x st => if lstV st x then (e c σ st).bind fun y st => .of st (O.countL (deref st x) y) else .bad
end D
theorem count_pd {x : PV} (hx : flat 59 x = true) : ∀ xs : List PV, flatL 59 xs = true → (xs.countP fun y => eqv y x) = cntD (toPDs xs) (toPD x)
  | [], _ => rfl
  | y :: ys, h => by
    simp only [flatL, Bool.and_eq_true] at h
    have ih := count_pd hx ys h.2
    simp only [cntD] at ih
    simp only [toPDs, cntD, List.countP_cons, ih, eqv_pd 59 59 y x h.1 hx]
theorem countL_inv {p q r : PV} (h : O.countL p q = some r) : ∃ ys, p = .lst ys ∧ flat 59 q = true ∧ flatL 59 ys = true ∧ r = .int (ys.countP fun y => eqv y q : Nat) := by
  unfold O.countL at h
  split at h
  · split at h
    · rename_i hf
      simp only [Bool.and_eq_true] at hf
      cases h
      exact ⟨_, rfl, hf.1, hf.2, rfl⟩
    · cases h
  · cases h
section
variable {Γ : Pg} {n : Nat} {c fa : Nat → Addr} {G : Fr} {N : List Str} {sc : Scope} {X : Cx} {κ : Cn} {cs : CS}
variable {a b e d : Expr} {da db dd : DE} {pos p : Pos} {es : List Expr} {ds : DEs}
theorem SE.countL {apos : Pos} (ha : SE Γ N sc a da) (hb : SE Γ N sc b db) (hm : MRows a ("count" : Str) apos b [] pos) : SE Γ N sc (.Call (.Attribute a ("count" : Str) apos) [b] [] pos) (D.countL da db) := fun n c fa G X g => by
  refine (pe_bm PySem.F.plainAttrs_list PySem.F.slot_list_count PySem.F.type_list_count (mt_ctL g.u65) (ha n c fa G X g) (pa_cons (hb n c fa G X g) pa_nil (hm.st _)) (hm.base _) (hm.few _) hm.line (hm.st _) (hm.pl _)).imp ?_
  rintro σ H Q ⟨ρ, st, σp, A, R, o⟩
  refine tE_bind A R o fun v st1 ρ1 H1 u e1 A1 R1 ru o1 => ?_
  split at o1
  · rename_i hl
    have r1 := RR.of A1.wd ru
    unfold D.lstV at hl
    split at hl
    · rename_i xs eq
      rw [eq] at r1
      obtain ⟨a', us, rfl, h1, h2⟩ := rr_lst r1
      refine ⟨.inl ⟨rfl, _, SqL.of h1⟩, tE_bind A1 R1 o1 fun w st2 ρ2 H2 z e2 A2 R2 rz o2 => ?_⟩
      obtain ⟨res, ef, k⟩ := o2.of
      have r2 := RR.of A2.wd (ru.mono e2.mono)
      obtain ⟨ys, eq2, hf1, hf2, rfl⟩ := countL_inv ef
      rw [eq2] at r2
      have dp := dp_rr (n := 60) (p := .lst ys) (by simpa only [flat] using hf2) r2
      simp only [toPD] at dp
      exact ⟨a', z, toPD w, toPDs ys, rfl, rfl, dp, dp_of 59 w z hf1 rz, shaped_lst hf2, shapedS hf1, k ρ2 H2 Ext.refl A2 _ (by simp only [RV, count_pd hf1 ys hf2])⟩
    · cases hl
  · exact o1.elim
end
end Dn


namespace Dn
open PySem PySem.Spec PyProof.Rows L2
section
variable {Y : Cx} {a D : Addr} {oe : Obj} {σ : L2.St} {H : Hp}
theorem gl_lk {sc : Scope} {x : Str} (hs : Y.env.scope = sc) (h : GlB sc x = true) : Gl Y x := by
  unfold GlB at h
  show Y.env.scope.names.lookup x = some .globalImplicit
  rw [hs]
  cases q : sc.names.lookup x with
  | none => rw [q] at h; cases h
  | some k => cases k <;> simp_all
def DOk (d : Option Addr) (H : Hp) : Prop := d = none ∨ ∃ dd fs, d = some dd ∧ H dd = some (.xd fs)
theorem DOk.mono {d : Option Addr} {H H' : Hp} (h : DOk d H) (e : ∀ b o, H b = some o → H' b = some o) : DOk d H' := h.imp id fun ⟨dd, fs, h1, h2⟩ => ⟨dd, fs, h1, e _ _ h2⟩
theorem DOk.up {d : Option Addr} {H : Hp} {p : Addr} {u : HO} (h : DOk d H) (hp : H p = none) : DOk d (upd H p u) := h.mono fun b o e => by rw [upd_ne (ne_of_none e hp)]; exact e
structure HC (Y : Cx) (N : List Str) (sc : Scope) (a : Addr) (oe : Obj) : Prop where
  hN : Y.N = N
  nd : N.Nodup
  sc : Y.env.scope = sc
  pn : (a, oe) ∈ Y.pn
  un : Y.A.units + 65 < cLine
def nmOk (x : Str) : Bool := !(x == ("__debug__" : Str)) && !(x == ("__classdict__" : Str)) && !(x == ("__name__" : Str))
theorem nmOk_d {x : Str} (h : nmOk x = true) : (x == ("__debug__" : Str)) = false := by
  unfold nmOk at h; simp only [Bool.and_eq_true, Bool.not_eq_true'] at h; exact h.1.1
theorem nmOk_c {x : Str} (h : nmOk x = true) : (x == ("__classdict__" : Str)) = false := by
  unfold nmOk at h; simp only [Bool.and_eq_true, Bool.not_eq_true'] at h; exact h.1.2
theorem grow {H : Hp} {p : Addr} {u : HO} {H0 : Hp} (e : ∀ b o, H0 b = some o → H b = some o) (hp : H p = none) : ∀ b o, H0 b = some o → upd H p u b = some o := fun b o h => by
  rw [upd_ne (ne_of_none (e b o h) hp)]; exact e b o h
theorem KindC.uniq {K : PySem.W.Frag} {C CT : Addr} {cl : Str → Addr} {xs ws : List Str} {w1 w2 : Str} (h1 : KindC K C CT cl xs ws w1) (h2 : KindC K C CT cl xs ws w2) : w1 = w2 := by
  obtain ⟨i, a1, a2, a3⟩ := h1.at_
  obtain ⟨j, b1, b2, b3⟩ := h2.at_
  have e := congrArg (fun l => l[i]?) (a1.symm.trans b1)
  simp only [List.getElem?_map, List.getElem?_range a2, Option.map_some, Option.some.injEq, decide_true] at e
  have e : i = j := of_decide_eq_true e.symm
  subst e
  exact Option.some.inj (a3.symm.trans b3)
end
end Dn


namespace Dn
open PySem PySem.Spec PyProof.Rows L2
theorem int_text {i : Int} (h : i.natAbs < 1000000000000000000000000000000) : (toString i : Str).length ≤ 31 ∧ i.natAbs.log2 < 1920 := by
  refine ⟨?_, ?_⟩
  · have e := int_text_length_le10 (k := 30) (a := i) (by decide) (by omega)
    show (Str.ofString (toString i)).length ≤ 31
    rw [PySem.ofString_length]; exact e
  · refine Nat.lt_of_le_of_lt (?_ : _ ≤ 99) (by decide)
    by_cases z : i.natAbs = 0
    · rw [z]; decide
    · exact Nat.le_of_lt_succ ((Nat.log2_lt z).mpr (Nat.lt_of_lt_of_le h (by decide)))
section
variable {X : Cx} {CT : Addr} {x : Str} {p1 p2 pos : Pos} {e : Expr} {es : List Expr} {ta : TA}
theorem pe_baseinit {pl : Sem Bool} {mc : Value} (hg : Gl X x) (hm : X.mg x = some (.ref CT)) (hx : (x == ("__debug__" : Str)) = false) (rd : PySem.W.readsIn X.K CT mc = true) (fc : PySem.W.findCls X.K (.ref CT) mc "__init__" = some (.val (.builtin "ValueError.__init__")))
    (sp : PySem.W.specialIn X.K (.ref CT) "__getattribute__" = some (some (.builtin "type.__getattribute__"))) (ha : PA X (e :: es) ta)
    (hc : eval (.Call (.Attribute (.Name x p1) "__init__" p2) (e :: es) [] pos) X.env = (do
      let ov ← eval (.Name x p1) X.env
      standAt p2.atName
      let (f, first) ← holding [ov] (getMethod ov "__init__" pl)
      callWith pos f first (backTo pos (starEach (e :: es) X.env)) (backToKw pos (keywordEach [] X.env))))
    (he : starEach (e :: es) X.env = (false, eval e X.env) :: starEach es X.env) (hpl : (backTo pos (starEach es X.env)).any (·.1) = false) :
    PE X (.Call (.Attribute (.Name x p1) "__init__" p2) (e :: es) [] pos) (tVeI X.K ta) := by
  refine ⟨fun pins s σ H Q I h => PySem.W.methodCall_KW (ld_glob I hg hm ?_ hx) hc⟩
  refine PySem.W.method_cls I.kIn sp (PySem.W.cls_value I.kIn rd fc (by decide +kernel) ?_)
  refine PyProof.Rows.callWith_method1 (thn (ha.run pos pins _ σ H _ (I.tok _) h) fun us s1 ⟨vs, H1, J, rv, a, C, ws, ev, hl, T, ea, q⟩ => ?_) he hpl
  subst ev
  cases rv with
  | @cons _ u0 _ ur ra rw' =>
    obtain rfl : u0 = Value.ref a := ra
    exact oinit_ok T J ea (by rw [← Paired.length rw', sizeLine_eq]; omega) fun s' K => ⟨.non, H1, K, rfl, q⟩
end

section
variable {K : PySem.W.Frag} {mg : Str → Option Value} {C : Addr}
def spTm (C : Addr) : Sp := fun vs H Q _ => ∃ (a : Addr) (i j : Int), vs = [.ref a, .int i, .int j] ∧ i.natAbs < 1000000000000000000000000000000 ∧ j.natAbs < 1000000000000000000000000000000 ∧ H a = some (exo a C none) ∧
  ∀ dx, H dx = none → dx ≠ a → Q .non (upd (upd (upd H dx (exd dx [(("many" : Str), .int i)])) a (exo a C (some dx))) dx (exd dx [(("most" : Str), .int j), (("many" : Str), .int i)]))
theorem tm_walk {Z : Cx} (T : TmT Z.K Z.mg C) (hN : Z.N = [T.self, T.fa, T.fb]) (hsc : Z.env.scope = T.sc) :
    ∃ t, PSs Z T.bd t ∧ ∀ (Q : VK) (H : Hp) (E : XK) (vs : List V) (D' : Ends), (D'.nx = fun _ H' => Q .non H') → spTm C vs H Q E → t D' (L2.start [T.self, T.fa, T.fb] vs) H := by
  have lo := T.lo
  have ok := T.ok
  have gl := T.gl
  simp only [Bool.and_eq_true, decide_eq_true_eq] at lo
  have okA : ∀ z ∈ ([T.self, T.fa, T.fb] : List Str), nmOk z = true := fun z hz => List.all_eq_true.mp ok z hz
  obtain ⟨ea, eb⟩ := T.ab
  obtain ⟨n1, n2⟩ := T.nf
  have tb := T.tb
  have rd := T.rd
  have fc := T.fc
  have sp := T.sp
  have mT := T.mT
  generalize T.bd = bd at *
  generalize T.sc = sc at *
  generalize T.self = self at *
  generalize T.fa = fa at *
  generalize T.fb = fb at *
  subst ea
  subst eb
  cases tb with
  | @mk j1 j2 w1 w2 p1 p2 p3 p4 p5 p6 p7 p8 p9 p10 p11 p12 q1 q2 q3 q4 r1 r2 r3 r4 hc hs h1 h2 l1 l2 =>
    obtain ⟨pl, hc⟩ := hc Z.env
    have e0 : Z.N[0]? = some self := by rw [hN]; rfl
    have e1 : Z.N[1]? = some ("many" : Str) := by rw [hN]; rfl
    have e2 : Z.N[2]? = some ("most" : Str) := by rw [hN]; rfl
    have v0 : Vis Z.env.scope self := by rw [hsc]; exact .inl lo.1
    have v1 : Vis Z.env.scope ("many" : Str) := by rw [hsc]; exact .inl lo.2.1
    have v2 : Vis Z.env.scope ("most" : Str) := by rw [hsc]; exact .inl lo.2.2
    have ps : ∀ {p : Pos}, PE Z (.Name self p) (tVar 0) := pe_var (i := 0) e0 v0 (nmOk_d (okA self (by simp))) (nmOk_c (okA self (by simp)))
    have pa : ∀ {p : Pos}, PE Z (.Name ("many" : Str) p) (tVar 1) := pe_var (i := 1) e1 v1 (by decide) (by decide)
    have pb : ∀ {p : Pos}, PE Z (.Name ("most" : Str) p) (tVar 2) := pe_var (i := 2) e2 v2 (by decide) (by decide)
    have pj := pe_joined (pos := p10) (PJ.cons (pe_fmt (pos := p5) (pa (p := p4))) (PJ.cons (pe_str (X := Z) (x := w1) (j := j1) (pos := p6)) (PJ.cons (pe_fmt (pos := p8) (pb (p := p7))) (PJ.cons (pe_str (x := w2) (j := j2) (pos := p9)) PJ.nil))))
    have s1 := ps_expr (pos := p12) (pe_baseinit (gl_lk hsc gl) mT (by decide) rd fc sp (pa_cons (ps (p := p3)) (pa_cons pj pa_nil rfl) (hs _)) hc (hs _) rfl)
    have scE : ∀ {P : PySem.Env → Prop}, (∀ env : PySem.Env, P { env with scope := sc }) → P Z.env := fun {P} h => by
      have := h Z.env
      rw [← hsc] at this
      exact this
    have s2 := ps_ost (pos := q3) (p' := q2) (f := ("many" : Str)) (ps (p := q1)) (pa (p := q4)) (scE (P := fun env => swapsWith (.Name ("many" : Str) q4) (some (.Attribute (.Name self q1) ("many" : Str) q2)) q3.line env = pure false) h1)
    have s3 := ps_ost (pos := r3) (p' := r2) (f := ("most" : Str)) (ps (p := r1)) (pb (p := r4)) (scE (P := fun env => swapsWith (.Name ("most" : Str) r4) (some (.Attribute (.Name self r1) ("most" : Str) r2)) r3.line env = pure false) h2)
    refine ⟨_, pss_cons s1 (pss_cons s2 (pss_one s3)), ?_⟩
    rintro Q H E vs D' hD ⟨a, i, j, rfl, bi, bj, ha, hq⟩
    obtain ⟨li, gi⟩ := int_text bi
    obtain ⟨lj, gj⟩ := int_text bj
    have bg := big
    have le0 : Str.empty.length = 0 := rfl
    refine ⟨.ref a, rfl, .int i, rfl, .inr ⟨i, rfl, gi, _, rfl, ?_, _, rfl, ?_, .int j, rfl, .inr ⟨j, rfl, gj, _, rfl, ?_, _, rfl, ?_, a, C, _, rfl, Nat.le_of_ble_eq_true rfl, T.T, ha, ?_⟩⟩⟩
    · rw [Str.length_append, le0]; omega
    · rw [Str.length_append, Str.length_append, le0]; omega
    · rw [Str.length_append, Str.length_append, Str.length_append, le0]; omega
    · rw [Str.length_append, Str.length_append, Str.length_append, Str.length_append, le0]; omega
    · refine ⟨.int i, rfl, .ref a, rfl, a, C, rfl, T.T, n1, .inl ⟨ha, fun dx nx na => ?_⟩⟩
      refine ⟨.int j, rfl, .ref a, rfl, a, C, rfl, T.T, n2, .inr ⟨dx, [(("many" : Str), .int i)], upd_same, ?_, Nat.le_of_ble_eq_true rfl, ?_⟩⟩
      · rw [upd_ne na, upd_same]
      · rw [hD]; exact hq dx nx na
theorem tm_fn {P : Program} {w : World} {base : Heap} {CX : CXT} (T : TmT K mg C) : FnOk P w K mg base CX 1 T.fI T.fd [T.self, T.fa, T.fb] (spTm C) := by
  refine T.F.ok T.S (fun vs H Q E ⟨a, i, j, e, _⟩ => by rw [e]; rfl) fun cdv A outer s H vs Q E hr hsp => ?_
  obtain ⟨t, ps, h⟩ := tm_walk (Z := cxOf CX P w K mg base [T.self, T.fa, T.fb] ("TooMany.__init__" : Str) T.sc T.fI cdv A outer s H E) T rfl rfl
  exact ⟨t, ps, h Q H E vs _ rfl hsp⟩
end
end Dn


namespace Dn
open PySem PySem.Spec PyProof.Rows L2
namespace D
end D
section
variable {X : Cx} {pins : List (Addr × Obj)} {σ : L2.St} {H : Hp} {s : Shared}
structure TExt (H H1 : Hp) : Prop where
  keep : ∀ b o, H b = some o → (∀ ps, o ≠ .tbl ps) → H1 b = some o
  dom : ∀ b, H b ≠ none → H1 b ≠ none
end
section
variable {Γ : Pg} {n : Nat} {c fa : Nat → Addr} {G : Fr} {N : List Str} {sc : Scope} {X : Cx} {κ : Cn} {cs : CS}
theorem at_text {ρ : List Addr} {st : Store} {H H1 : Hp} (A : At κ G ρ st H) (x : TExt H H1) (t : TabsOk κ.K H1) : Ext ρ H ρ H1 ∧ At κ G ρ st H1 := by
  have e : Ext ρ H ρ H1 := ⟨⟨[], by simp, by simp⟩, x.dom, fun a o h _ n => x.keep a o h n, fun a xs h => x.keep a _ h fun _ z => HO.noConfusion z, fun a o u h => x.keep a _ h fun _ z => HO.noConfusion z⟩
  refine ⟨e, A.step e (A.wd.ext_same e t fun a ha => ?_)⟩
  obtain ⟨n, hn⟩ := List.getElem?_of_mem ha
  have hl : n < st.length := by rw [← A.wd.len]; exact (List.getElem?_eq_some_iff.mp hn).1
  obtain ⟨u, hu, nb⟩ := (A.wd.ob n st[n] a (by simp [hl]) hn).notb
  rw [hu]
  exact x.keep a u hu nb.1
end
end Dn


namespace Dn
open PySem L2
namespace D
end D
section
variable {Γ : Pg} {n : Nat} {c fa : Nat → Addr} {G : Fr} {N : List Str} {sc : Scope} {X : Cx} {κ : Cn} {cs : CS}
theorem raise_keeps {H1 : Hp} {a dx : Addr} {u1 u2 u3 u4 u5 : HO} (ha : H1 a = none) (hd : H1 dx = none) : ∀ b o, H1 b = some o → upd (L2.del (upd (upd (upd (upd H1 a u1) dx u2) a u3) dx u4) a) dx u5 b = some o := fun b o e => by
  have h1 : b ≠ a := fun z => by rw [z, ha] at e; cases e
  have h2 : b ≠ dx := fun z => by rw [z, hd] at e; cases e
  rw [upd_ne h2, L2.del_ne h1, upd_ne h2, upd_ne h1, upd_ne h2, upd_ne h1]
  exact e
end
end Dn


namespace L2
open PySem PySem.Spec PyProof.Rows
section
variable {X : Cx} {pins : List (Addr × Obj)} {σ : St} {H : Hp} {sI s' : Shared} {a C : Addr} {d : Option Addr} {oe : Obj} {vs : Array Value}
theorem track (J : Inv X pins σ H sI) (k : ∀ b o, sI.heap.get? b = some o → s'.heap.get? b = some o) (ne : sI.heap.get? a = none) (ha : s'.heap.get? a = some oe) (z : Zc (.ref C) d oe) (hd : oe.data = .fields vs) (na : H a = none) (os : s'.os = sI.os) (ag : AllBare s'.gens) :
    Inv X pins σ (upd H a (exz a C d)) s' := by
  have off : ∀ b o, sI.heap.get? b = some o → b ≠ a := fun b o e z => by rw [z, ne] at e; cases e
  refine J.call' (ch := []) os ⟨fun b u q _ _ _ => k b u q, fun b u q _ _ _ => ⟨u.slots, k b u q⟩, fun b u q n _ => by rw [upd_ne (off b u q)]; exact n, fun b u q _ => ⟨u, k b u q⟩, fun b xs q => by rw [upd_ne (ne_of_none q na)]; exact q, fun b u xs q => by rw [upd_ne (ne_of_none q na)]; exact q, fun b ps q => ⟨#[], by rw [upd_ne (ne_of_none q na), q]; simp⟩⟩ ?_ ag (fun b hb => by cases hb)
  intro b u e
  by_cases hb : b = a
  · subst hb
    rw [upd_same] at e
    cases e
    exact exz_ok ha z hd
  · rw [upd_ne hb] at e
    exact (J.hok.kept k b u e).stay (fun b u _ q => q) (fun b q => by rw [upd_ne (ne_of_none q na)]; exact q) fun b u q => by rw [upd_ne (ne_of_none q na)]; exact q
end
def tVal (t : St → Hp → XK → Prop) : TE := fun σ H Q => t σ H fun cls d H' => ∃ C, cls = .ref C ∧ ∀ a, H' a = none → Q (.ref a) (upd H' a (exz a C d))
theorem pe_made {X : Cx} {e : Expr} {t : St → Hp → XK → Prop} (h : PMk X e t) : PE X e (tVal t) := by
  refine ⟨fun pins s σ H Q I hq => wpAny_mono (h pins s σ H _ I hq) (fun u s1 z => ?_) fun _ _ x => x⟩
  obtain ⟨a, oe, vs, sI, H', cls, d, rfl, J, k, ne, ha, hz, hd, h1, na, os, ag, r, C, rfl, q⟩ := z
  exact ⟨.ref a, _, track J k ne ha hz hd na os ag, rfl, q a na⟩
section
variable {X : Cx} {D : Addr}
theorem inst_z {pins : List (Addr × Obj)} {σ : St} {H : Hp} {s : Shared} {a : Addr} {d : Option Addr} (I : Inv X pins σ H s) (h : H a = some (exz a D d)) (dk : Dn.DOk d H) : ∃ oe od, PySem.W.InstAt s.heap a oe D od ∧ (d = none → od = none) ∧ ∀ dd fs, d = some dd → H dd = some (.xd fs) → ∃ o, od = some o ∧ s.heap.get? dd = some o := by
  obtain ⟨oe, vs, P, hz, hv⟩ := exz_at I.hok h
  rcases dk with rfl | ⟨dd, fs, rfl, hd⟩
  · obtain ⟨oc, od, oda, osl⟩ := oe
    obtain ⟨z1, z2⟩ := hz
    cases z1
    cases z2
    cases hv
    exact ⟨_, none, ⟨P, rfl, rfl, trivial⟩, fun _ => rfl, fun _ _ e => nomatch e⟩
  · have hx : ObjOk X.prog X.w H s.heap dd (.xd fs) := I.hok dd _ hd
    obtain ⟨mA, hns, hr⟩ := hx
    obtain ⟨od, ho, _⟩ := lookIn_ns hns
    exact ⟨oe, some od, ⟨P, hz.1, by unfold PySem.W.notCls; rw [hv] <;> rfl, by rw [hz.2]; exact ho⟩, fun e => (nomatch e), fun d2 f2 e e2 => by cases e; exact ⟨od, rfl, ho⟩⟩
def rIsV (K : PySem.W.Frag) : List V → Hp → VK → Prop := fun xs H Q => ∃ (a D : Addr) (d : Option Addr) (t : V) (tv : Value) (b : Bool), xs = [.ref a, t] ∧ H a = some (exz a D d) ∧ Dn.DOk d H ∧ ExcC K D ∧ (∀ u, RelV t u → u = tv) ∧ PySem.W.kitOne K (.ref D) tv = some b ∧ Q (.bl b) H
theorem call_isV : CallR X (.builtin "isinstance") (rIsV X.K) := by
  intro pins s σ H xs us Q I r h
  obtain ⟨a, D, d, t, tv, b, rfl, ha, dk, E, ht, ek, q⟩ := h
  obtain ⟨u1, u2, rfl, r1, r2⟩ := vals2 r
  cases (show u1 = Value.ref a from r1)
  cases ht _ r2
  obtain ⟨oe, od, J, _⟩ := inst_z I ha dk
  have hcl : (PySem.W.clsIn X.K D).isSome = true := by obtain ⟨cd, hc, _⟩ := PySem.W.any_some E.hd; rw [hc]; rfl
  exact PySem.W.kia_one (PySem.W.kitx_exc hcl E.hg E.hk E.hs E.ha E.hn E.ht E.hm) I.kIn J ek (fun z => nomatch z) fun tk => ⟨.bl b, H, I.tok tk, rfl, q⟩
def tXv (K : PySem.W.Frag) (f : Str) (te : TE) : TE := fun σ H Q => te σ H fun x H1 => ∃ (a C dd : Addr) (fs : List (Str × V)) (v : V), x = .ref a ∧ H1 a = some (exz a C (some dd)) ∧ H1 dd = some (.xd fs) ∧ fs.lookup f = some v ∧ XfC K C ∧ PySem.W.findIn K (.ref C) f = some none ∧ Q v H1
theorem pe_xv {e : Expr} {te : TE} {pos : Pos} {n : Str} (he : PE X e te) (hb : attributeBase e n X.env (eval e X.env) = eval e X.env := by rfl) : PE X (.Attribute e n pos) (tXv X.K n te) := by
  refine ⟨fun pins s σ H Q I h => ?_⟩
  refine attr_of hb (thn (he.run pins s σ H _ I h) fun u s1 hh => ?_)
  obtain ⟨x, H1, I1, rx, a, C, dd, fs, v, ex, ha, ea, l, T, hno, q⟩ := hh
  subst ex
  obtain rfl : u = Value.ref a := rx
  obtain ⟨oe, vs, P, hz, hv⟩ := exz_at I1.hok ha
  have hx : ObjOk X.prog X.w H1 s1.heap dd (.xd fs) := I1.hok dd _ ea
  obtain ⟨mA, hns, hr⟩ := hx
  obtain ⟨od, ho, hl⟩ := lookIn_ns hns
  obtain ⟨u, hu, ru⟩ := RelO.some_of (v := v) (o := mA n) (by rw [← l]; exact hr n)
  have J : PySem.W.InstAt s1.heap a oe C (some od) := ⟨P, hz.1, by unfold PySem.W.notCls; rw [hv] <;> rfl, by rw [hz.2]; exact ho⟩
  exact HandSPX.exc_get I1.kIn J T.ga T.gg T.exC (PySem.W.findObj_own T.hdC hno rfl (by rw [hl, hu])) (handed_of ru) ⟨v, H1, I1.tok _, ru, q⟩
end
end L2


namespace Dn
open PySem L2
namespace D
def newE (C : Nat) : DE := fun _ _ st => .ok (.ref st.length) (st ++ [.exo C []])
def newTm (C f : Nat) (a b : DE) : DE := fun c σ st => match c f [] st with
  | .ok _ _ => (a c σ st).bind fun x st1 => (b c σ st1).bind fun y st2 => (match x, y with
    | .int i, .int j => if i.natAbs < 1000000000000000000000000000000 ∧ j.natAbs < 1000000000000000000000000000000 then .ok (.ref st2.length) (st2 ++ [.exo C [(("most" : Str), .int j), (("many" : Str), .int i)]]) else .bad
    | _, _ => .bad)
  | _ => .bad
def isE (cs : List Nat) (k : Nat → Bool) (a : DE) : DE := fun c σ st => (a c σ st).bind fun x st => match x with
  | .ref n => (match st[n]? with
    | some (.exo C _) => if cs.contains C then .ok (.bl (k C)) st else .bad
    | _ => .bad)
  | _ => .bad
def attrE (C : Nat) (a : DE) (f : Str) : DE := fun c σ st => (a c σ st).bind fun x st => match x with
  | .ref n => (match st[n]? with
    | some (.exo C' fs) => if C'.beq C then (match fget f fs with | some v => .ok v st | none => .bad) else .bad
    | _ => .bad)
  | _ => .bad
end D
section
variable {Γ : Pg} {n : Nat} {c fa : Nat → Addr} {G : Fr} {N : List Str} {sc : Scope} {X : Cx} {κ : Cn} {cs : CS}
variable {a b : Expr} {da db : DE} {p q pos : Pos}
theorem SE.newE {C : Nat} {x m : Str} {j : Nat} {p2 : Pos} (h : okEx Γ sc C x = true) : SE Γ N sc (.Call (.Name x p) [.Constant (.str m) j p2] [] pos) (D.newE C) := fun n c fa G X g => by
  unfold okEx at h
  simp only [Bool.and_eq_true, decide_eq_true_eq] at h
  obtain ⟨h1, h3⟩ := g.env.exn C x h.2
  obtain ⟨B, nn, i, bm, F, q⟩ := h3.made
  refine (pe_made (pmk_own F q h1 h3.kp (raises_own h3.sub h3.ty) (gl_of g h.1.1) (nameOk_d h.1.2))).imp ?_
  rintro σ H Q ⟨ρ, st, σp, A, R, o⟩
  refine ⟨_, rfl, fun a na => ?_⟩
  have e2 : Ext ρ H (ρ ++ [a]) (upd H a (exz a (c C) none)) := ext_add na _ rfl
  refine o (ρ ++ [a]) _ e2 (A.step e2 (A.wd.add na ⟨none, [], upd_same, .inl ⟨rfl, rfl⟩⟩)) _ ?_
  simp only [RV]
  exact ⟨a, rfl, by rw [← A.wd.len]; simp⟩
def okTm (Γ : Pg) (sc : Scope) (C : Nat) : Bool := GlB sc "TooMany" && (match Γ.xvs with | some p => p.2.2.beq C | none => false)
theorem okTm_at {C : Nat} (g : Good Γ n c fa G N sc X) (h : okTm Γ sc C = true) : Gl X "TooMany" ∧ ∃ cs T, Γ.xvs = some (cs, T, C) ∧ XvT X.K X.mg c cs T C := by
  unfold okTm at h
  simp only [Bool.and_eq_true] at h
  refine ⟨gl_of g h.1, ?_⟩
  cases e : Γ.xvs with
  | none => rw [e] at h; exact absurd h.2 (by simp)
  | some p =>
    obtain ⟨cs, T, tm⟩ := p
    rw [e] at h
    have := Nat.eq_of_beq_eq_true h.2
    subst this
    exact ⟨cs, T, rfl, g.env.xv _ e⟩
theorem SE.newTm {C f : Nat} (hx : okTm Γ sc C = true) (ha : SE Γ N sc a da) (hb : SE Γ N sc b db) (hs : ∀ env, starEach [a, b] env = (false, eval a env) :: starEach [b] env := by intro _; rfl)
    (hs2 : ∀ env, starEach [b] env = (false, eval b env) :: starEach [] env := by intro _; rfl) (hpl : ∀ env, (backTo pos (starEach [b] env)).any (·.1) = false := by intro _; rfl) :
    SE Γ N sc (.Call (.Name ("TooMany" : Str) p) [a, b] [] pos) (D.newTm C f da db) := fun n c fa G X g => by
  obtain ⟨hg, cs, T, _, xv⟩ := okTm_at g hx
  obtain ⟨_, M, _⟩ := xv.two
  cases n with
  | zero =>
    refine ⟨fun pins s σ H Z I h => ?_⟩
    obtain ⟨ρ, st, σp, A, R, o⟩ := h
    exact (show False from o).elim
  | succ m =>
    have room : Room (1 + 1) X.A := g.room.mono (by omega)
    refine (pe_made (pmk_oex (CX := L2.CX X.prog X.w) (k := 1) M.T M.iC M.tI (tm_fn M) room M.bi .nil passL hg M.mx (pa_cons (ha _ c fa G X g) (pa_cons (hb _ c fa G X g) pa_nil (hs2 _)) (hs _)) rfl (hs _) (hpl _))).imp ?_
    rintro σ H Q ⟨ρ, st, σp, A, R, o⟩
    unfold D.newTm at o
    split at o
    rotate_left
    · exact o.elim
    refine tE_bind A R o fun x st1 ρ1 H1 u e1 A1 R1 r1 o1 => ?_
    refine tE_bind A1 R1 o1 fun y st2 ρ2 H2 v e2 A2 R2 r2 o2 => ?_
    split at o2
    rotate_left
    · exact o2.elim
    rename_i i j
    split at o2
    rotate_left
    · exact o2.elim
    rename_i hb
    obtain ⟨b1, b2⟩ := hb
    have eu : u = V.int i := by simpa only [RV] using r1
    have ev : v = V.int j := by simpa only [RV] using r2
    subst eu
    subst ev
    refine ⟨Nat.le_of_ble_eq_true rfl, fun ad na => ⟨ad, i, j, rfl, b1, b2, upd_same, fun dx hd ne => ?_⟩⟩
    have hd' : H2 dx = none := by rwa [upd_ne ne] at hd
    have gr := raise_keeps (u1 := exo ad (c C) none) (u2 := exd dx [(("many" : Str), .int i)]) (u3 := exo ad (c C) (some dx)) (u4 := exd dx [(("most" : Str), .int j), (("many" : Str), .int i)]) (u5 := .xd [(("most" : Str), .int j), (("many" : Str), .int i)]) na hd'
    refine ⟨rfl, dx, _, by rw [upd_ne (Ne.symm ne), upd_same], upd_same, hd', ?_⟩
    refine ⟨_, rfl, fun a na2 => ?_⟩
    have tx : TExt H2 _ := ⟨fun b o h _ => gr b o h, fun b h => by
      cases q : H2 b with
      | none => exact absurd q h
      | some w => rw [gr b w q]; simp⟩
    obtain ⟨e3, A3⟩ := at_text (κ := cnOf X c) A2 tx (A2.wd.tabs.ext gr)
    have nda : dx ≠ a := fun z => by rw [← z, upd_same] at na2; cases na2
    have e4 := ext_add (ρ := ρ2) (o := exz a (c C) (some dx)) na2 _ rfl
    refine o2 (ρ2 ++ [a]) _ (e3.trans e4) (A3.step e4 (A3.wd.add na2 ⟨some dx, _, upd_same, .inr ⟨dx, rfl, by rw [upd_ne nda]; exact upd_same, ?_, by simp [RFs, RV]⟩⟩)) _ ?_
    · rintro (z | z)
      · exact A2.wd.dom dx z hd'
      · rcases List.mem_append.mp z with z | z
        · exact A2.wd.has z hd'
        · exact nda (List.mem_singleton.mp z)
    · simp only [RV]
      exact ⟨a, rfl, by rw [← A2.wd.len]; simp⟩
theorem exo_at {ρ : List Addr} {st : Store} {H : Hp} (A : At κ G ρ st H) {m C : Nat} {fs : List (Str × PV)} {u : V} (h : st[m]? = some (.exo C fs)) (r : RV κ (Fo G.B ρ) ρ H (.ref m) u) :
    ∃ a d gs, u = .ref a ∧ H a = some (exz a (κ.cls C) d) ∧ DOk d H ∧ ((d = none ∧ fs = []) ∨ ∃ dd, d = some dd ∧ H dd = some (.xd gs) ∧ RFs κ (Fo G.B ρ) ρ H fs gs) := by
  simp only [RV] at r
  obtain ⟨a, rfl, h1⟩ := r
  obtain ⟨d, gs, h2, h3⟩ := A.wd.ob m _ a h h1
  refine ⟨a, d, gs, rfl, h2, ?_, ?_⟩
  · rcases h3 with ⟨rfl, _⟩ | ⟨dd, rfl, h4, _⟩
    · exact .inl rfl
    · exact .inr ⟨dd, gs, rfl, h4⟩
  · rcases h3 with h3 | ⟨dd, h3, h4, _, h5⟩
    · exact .inl h3
    · exact .inr ⟨dd, h3, h4, h5⟩
theorem isE_read {x : Str} {k : Nat → Bool} {es : List Nat} {tv : Value} {tV : V} (hi : okB Γ sc ("isinstance" : Str) = true) (g : Good Γ n c fa G N sc X) (hE : ∀ C ∈ es, ExcC X.K (c C)) (ht : ∀ u, RelV tV u → u = tv) (hk : ∀ C ∈ es, PySem.W.kitOne X.K (.ref (c C)) tv = some (k C))
    (pc : PE X (.Name x q) (tC tV)) (ha : PE X a (tE (cnOf X c) G (callN Γ.tbl n) da)) (hst : ∀ env, starEach [a, .Name x q] env = (false, eval a env) :: starEach [.Name x q] env) : PE X (.Call (.Name ("isinstance" : Str) p) [a, .Name x q] [] pos) (tE (cnOf X c) G (callN Γ.tbl n) (D.isE es k da)) := by
  obtain ⟨g1, g2, g3, g4⟩ := okB_gl g hi
  refine (pe_callB call_isV g1 g2 (by decide +kernel) (pa_cons ha (pa_cons pc pa_nil) (hst _)) g3 g4 (hst _) rfl).imp ?_
  rintro σ H Q ⟨ρ, st, σp, A, R, o⟩
  refine tE_bind A R o fun v st1 ρ1 H1 u e1 A1 R1 ru o1 => ?_
  split at o1
  · rename_i m
    split at o1
    · rename_i C fs em
      split at o1
      · rename_i hc
        have hc : C ∈ es := by simpa using hc
        obtain ⟨a1, d, gs, rfl, h2, dk, _⟩ := exo_at A1 em ru
        exact ⟨a1, c C, d, tV, tv, k C, rfl, h2, dk, hE C hc, ht, hk C hc, o1 ρ1 H1 Ext.refl A1 (.bl (k C)) (by simp only [RV])⟩
      · exact o1.elim
    · exact o1.elim
  · exact o1.elim
def okIs (Γ : Pg) (sc : Scope) (D : Nat) (x : Str) (es : List Nat) : Bool := GlB sc x && (match Γ.xvs with | some p => decide (p.1 = es) && (es.contains D && ((decide (Γ.exn D = some x) && nameOk x) || (p.2.2.beq D && sEq x "TooMany"))) | none => false)
theorem SE.isE {T0 : Nat} {x : Str} {es : List Nat} (hi : okB Γ sc ("isinstance" : Str) = true) (h : okIs Γ sc T0 x es = true) (ha : SE Γ N sc a da) (hst : ∀ env, starEach [a, .Name x q] env = (false, eval a env) :: starEach [.Name x q] env := by intro _; rfl) :
    SE Γ N sc (.Call (.Name ("isinstance" : Str) p) [a, .Name x q] [] pos) (D.isE es (fun C => decide (C = T0)) da) := fun n c fa G X g => by
  unfold okIs at h
  simp only [Bool.and_eq_true] at h
  obtain ⟨hg, h⟩ := h
  cases e : Γ.xvs with
  | none => rw [e] at h; exact absurd h (by simp)
  | some p =>
    obtain ⟨es', T, tm⟩ := p
    rw [e] at h
    simp only [Bool.and_eq_true, Bool.or_eq_true, decide_eq_true_eq] at h
    obtain ⟨rfl, hD, h⟩ := h
    have xv := g.env.xv _ e
    have mx : X.mg x = some (.ref (c T0)) ∧ (x == ("__debug__" : Str)) = false := by
      rcases h with ⟨h, hn⟩ | ⟨h, hx⟩
      · exact ⟨(g.env.exn T0 x h).1, nameOk_d hn⟩
      · have := Nat.eq_of_beq_eq_true h
        subst this
        have := sEq_iff.mp hx
        subst this
        obtain ⟨_, M, _⟩ := xv.two
        exact ⟨M.mx, by decide⟩
    exact isE_read hi g (tV := .ref (c T0)) (tv := .ref (c T0)) (fun C hC => xv.ec C hC) (fun u r => r) (fun C hC => xv.one C hC T0 (by simpa using hD)) (pe_glob (v := .ref (c T0)) (gl_of g hg) mx.1 rfl mx.2) (ha n c fa G X g) hst
def okIsT (Γ : Pg) (sc : Scope) (x : Str) (es : List Nat) : Bool := GlB sc x && nameOk x && (match Γ.xvs with | some p => decide (p.1 = es) && decide (Γ.exn p.2.1 = some x) | none => false)
theorem SE.isT {x : Str} {es : List Nat} (hi : okB Γ sc ("isinstance" : Str) = true) (h : okIsT Γ sc x es = true) (ha : SE Γ N sc a da) (hst : ∀ env, starEach [a, .Name x q] env = (false, eval a env) :: starEach [.Name x q] env := by intro _; rfl) :
    SE Γ N sc (.Call (.Name ("isinstance" : Str) p) [a, .Name x q] [] pos) (D.isE es (fun _ => true) da) := fun n c fa G X g => by
  unfold okIsT at h
  simp only [Bool.and_eq_true] at h
  obtain ⟨⟨hg, hn⟩, h⟩ := h
  cases e : Γ.xvs with
  | none => rw [e] at h; exact absurd h (by simp)
  | some p =>
    obtain ⟨es', T, tm⟩ := p
    rw [e] at h
    simp only [Bool.and_eq_true, decide_eq_true_eq] at h
    obtain ⟨rfl, h⟩ := h
    have xv := g.env.xv _ e
    exact isE_read hi g (tV := .ref (c T)) (tv := .ref (c T)) (fun C hC => xv.ec C hC) (fun u r => r) (fun C hC => xv.te C hC) (pe_glob (v := .ref (c T)) (gl_of g hg) (g.env.exn T x h).1 rfl (nameOk_d hn)) (ha n c fa G X g) hst
def okIsV (Γ : Pg) (es : List Nat) : Bool := match Γ.xvs with | some p => decide (p.1 = es) | none => false
theorem SE.isV {es : List Nat} (hi : okB Γ sc ("isinstance" : Str) = true) (hv : okB Γ sc ("ValueError" : Str) = true) (h : okIsV Γ es = true) (ha : SE Γ N sc a da) (hst : ∀ env, starEach [a, .Name ("ValueError" : Str) q] env = (false, eval a env) :: starEach [.Name ("ValueError" : Str) q] env := by intro _; rfl) :
    SE Γ N sc (.Call (.Name ("isinstance" : Str) p) [a, .Name ("ValueError" : Str) q] [] pos) (D.isE es (fun _ => true) da) := fun n c fa G X g => by
  unfold okIsV at h
  cases e : Γ.xvs with
  | none => rw [e] at h; exact absurd h (by simp)
  | some p =>
    obtain ⟨es', T, tm⟩ := p
    rw [e] at h
    simp only [decide_eq_true_eq] at h
    subst h
    have xv := g.env.xv _ e
    obtain ⟨g1, g2, _, _⟩ := okB_gl g hv
    exact isE_read hi g (tV := .ty "ValueError") (tv := .type "ValueError") (fun C hC => xv.ec C hC) (fun u r => r) (fun C hC => xv.ve C hC) (pe_bltn (v := .ty "ValueError") g1 g2 (by decide +kernel) rfl (by decide) (by decide)) (ha n c fa G X g) hst
def okXf (Γ : Pg) (C : Nat) (f : Str) : Bool := (match Γ.xvs with | some p => p.2.2.beq C | none => false) && (sEq f "many" || sEq f "most")
theorem SE.attrE {C : Nat} {f f' : Str} (he : f = f') (hx : okXf Γ C f = true) (ha : SE Γ N sc a da) (hb : ∀ env, attributeBase a f env (eval a env) = eval a env := by intro _; rfl) : SE Γ N sc (.Attribute a f pos) (D.attrE C da f') := fun n c fa G X g => by
  subst he
  unfold okXf at hx
  simp only [Bool.and_eq_true, Bool.or_eq_true] at hx
  obtain ⟨hx, hf⟩ := hx
  cases e : Γ.xvs with
  | none => rw [e] at hx; exact absurd hx (by simp)
  | some p =>
    obtain ⟨es, T, tm⟩ := p
    rw [e] at hx
    have := Nat.eq_of_beq_eq_true hx
    subst this
    have xv := g.env.xv _ e
    obtain ⟨_, M, _⟩ := xv.two
    have nf : PySem.W.findIn X.K (.ref (c tm)) f = some none := by
      rcases hf with h | h
      · rw [sEq_iff.mp h]; exact M.nf.1
      · rw [sEq_iff.mp h]; exact M.nf.2
    refine (pe_xv (ha n c fa G X g) (hb _)).imp ?_
    rintro σ H Q ⟨ρ, st, σp, A, R, o⟩
    refine tE_bind A R o fun v st1 ρ1 H1 u e1 A1 R1 ru o1 => ?_
    split at o1
    · rename_i m
      split at o1
      · rename_i C' fs em
        split at o1
        · rename_i ec
          have ec1 := Nat.eq_of_beq_eq_true ec
          subst ec1
          split at o1
          · rename_i w hw
            obtain ⟨a1, d, gs, rfl, h2, dk, h3⟩ := exo_at A1 em ru
            rcases h3 with ⟨_, rfl⟩ | ⟨dd, rfl, h4, h5⟩
            · exact absurd hw (by simp [fget])
            · obtain ⟨w', hl, rw'⟩ : ∃ w', gs.lookup f = some w' ∧ RV (cnOf X c) (Fo G.B ρ1) ρ1 H1 w w' := by
                rcases h5.look (f := f) with ⟨z, _⟩ | ⟨p, v, z1, z2, z3⟩
                · rw [hw] at z; cases z
                · rw [hw] at z1; cases z1; exact ⟨v, z2, z3⟩
              exact ⟨a1, _, dd, gs, w', rfl, h2, h4, hl, xv.xf, nf, o1 ρ1 H1 Ext.refl A1 w' rw'⟩
          · exact o1.elim
        · exact o1.elim
      · exact o1.elim
    · exact o1.elim
end
end Dn


namespace L2
open PySem PySem.Spec PyProof.Rows
section
variable {X : Cx} {ways : CXT} {lv n : Nat} {fa : Addr} {fd : FuncData} {names ks : List Str} {prom : Sp} {x : XK} {nm : Str} {p pos : Pos} {e : Expr} {es : List Expr} {t tk : TA} {kws : List Keyword}
variable {pins : List (Addr × Obj)} {σ : St} {H : Hp} {s : Shared} {Q : VK} {us ws : List Value} {vs zs : List V} {g : List Value → List Value → List Value} {gV : List V → List V → List V}
theorem run_gn (F : FnG X.prog X.w X.K X.mg X.base ways lv fa fd names prom) (ng : NoG X.A) (ro : Room lv X.A) (kb : KBn X.K fd names n ks g gV) (pa : Passes ways X x) (I : Inv X pins σ H s) (rv : Vals vs us) (rk : Vals zs ws) (l1 : vs.length = n) (l2 : zs.length = ks.length) (pr : prom (gV vs zs) H Q x) :
    wpAny (model X.prog X.w) X.A (call (.ref fa) us (ks.zip ws)) (EP X pins σ Q) X.xe s := by
  have both := kb.rel rv rk
  refine wpAny_call (codeAny_mono (F.run _ _ _ _ ⟨us, ks.zip ws⟩ _ _ _ _ ng ro I.env0 (kb.to s us ws I.kIn (rv.length.symm.trans l1) (rk.length.symm.trans l2)) both pr) fun r s' z => ?_)
  have en := end_g pa I z
  match r, en with
  | .ok (.ret u), en => exact en
  | .ok .next, en => exact False.elim en
  | .ok .brk, en => exact False.elim en
  | .ok .cont, en => exact False.elim en
  | .error b, en => exact en
theorem g_callk (F : FnG X.prog X.w X.K X.mg X.base ways lv fa fd names prom) (ng : NoG X.A) (ro : Room lv X.A) (gl : Gl X nm) (at_ : X.mg nm = some (.ref fa)) (ke : PySem.W.keepIn X.K (.ref fa) = true) (kb : KBn X.K fd names n ks g gV) (pa : Passes ways X x)
    (ar : PA X (e :: es) t) (hkw : PK X kws tk) (hall : (backToKw pos (keywordEach kws X.env)).all (·.1.isSome) = true) (hks : (backToKw pos (keywordEach kws X.env)).filterMap (·.1) = ks) (nd : (nm == ("__debug__" : Str)) = false)
    (st : starEach (e :: es) X.env = (false, eval e X.env) :: starEach es X.env) (hpl : ((backTo pos (starEach (e :: es) X.env)).any (·.1) || (backToKw pos (keywordEach kws X.env)).any (·.1.isNone)) = false) :
    PE X (.Call (.Name nm p) (e :: es) kws pos) (tCallN n ks.length prom gV x t tk) := by
  refine ⟨fun pins s σ H Q I z => wpAny_Call_Name_kw (ld_glob I gl at_ ?_ nd)⟩
  refine PySem.W.callWith_KW (h₀ := X.base) I.ok.mod.kin ke hall (thn (ar.run pos pins s σ H _ I z) fun us s1 ⟨vs, H1, I1, r, q⟩ => ?_) hpl st
  refine thn (hkw.run pos pins s1 σ H1 _ I1 q) fun ws s2 ⟨zs, H2, I2, rz, l1, l2, q2⟩ => ⟨I2.kIn, ?_⟩
  rw [hks]
  exact run_gn F ng ro kb pa I2 r rz l1 l2 q2
theorem g_callk0 (F : FnG X.prog X.w X.K X.mg X.base ways lv fa fd names prom) (ng : NoG X.A) (ro : Room lv X.A) (gl : Gl X nm) (at_ : X.mg nm = some (.ref fa)) (ke : PySem.W.keepIn X.K (.ref fa) = true) (kb : KBn X.K fd names 0 ks g gV) (pa : Passes ways X x)
    (hkw : PK X kws tk) (hall : (backToKw pos (keywordEach kws X.env)).all (·.1.isSome) = true) (hks : (backToKw pos (keywordEach kws X.env)).filterMap (·.1) = ks) (nd : (nm == ("__debug__" : Str)) = false)
    (hpl : ((backTo pos (starEach [] X.env)).any (·.1) || (backToKw pos (keywordEach kws X.env)).any (·.1.isNone)) = false) :
    PE X (.Call (.Name nm p) [] kws pos) (tCallN 0 ks.length prom gV x tNil tk) := by
  refine ⟨fun pins s σ H Q I z => wpAny_Call_Name_kw (ld_glob I gl at_ ?_ nd)⟩
  refine PySem.W.callWith_KW0 (h₀ := X.base) I.ok.mod.kin ke hall ?_ hpl
  refine thn (hkw.run pos pins s σ H _ I z) fun ws s2 ⟨zs, H2, I2, rz, l1, l2, q2⟩ => ⟨I2.kIn, ?_⟩
  rw [hks]
  exact run_gn (us := []) F ng ro kb pa I2 .nil rz l1 l2 q2
end
theorem Vals.pick (perm : List Nat) {vs : List V} {us : List Value} (h : Vals vs us) : Vals (Dn.pick perm vs) (Dn.pick perm us) := by
  have at_ : ∀ {vs : List V} {us : List Value}, Vals vs us → ∀ i : Nat, (vs[i]? = none ∧ us[i]? = none) ∨ ∃ v u, vs[i]? = some v ∧ us[i]? = some u ∧ RelV v u := by
    intro vs us h
    induction h with
    | nil => intro i; exact .inl ⟨rfl, rfl⟩
    | cons r _ ih =>
      intro i
      cases i with
      | zero => exact .inr ⟨_, _, rfl, rfl, r⟩
      | succ i => simpa using ih i
  unfold Dn.pick
  induction perm with
  | nil => exact .nil
  | cons i perm ih =>
    rcases at_ h i with ⟨a, b⟩ | ⟨v, u, a, b, r⟩
    · rw [List.filterMap_cons, List.filterMap_cons, a, b]; exact ih
    · rw [List.filterMap_cons, List.filterMap_cons, a, b]; exact .cons r ih
section
variable {K : PySem.W.Frag} {x qual : Str} {params : Arguments} {body : List Stmt} {scope : Scope} {dvs : List V} {kws : List (Str × V)} {f : Addr} {fd : FuncData} {ps : List Str}
theorem FunD.kbN (F : FunD K x qual params body scope [] kws f fd) (n : Nat) (ks : List Str) (perm : List Nat)
    (h : ∀ (kV doc pm : Value) (an : Option Addr) (cdv ct : Value) (us ws : List Value), us.length = n → ws.length = ks.length → bindArgs (PySem.W.fnOf x qual params body scope .none kV doc pm an cdv ct) ⟨us, ks.zip ws⟩ = pure (ps.zip (Dn.pick perm (us ++ ws ++ [])))) :
    KBn K fd ps n ks (fun us ws => Dn.pick perm (us ++ ws ++ [])) (fun vs zs => Dn.pick perm (vs ++ zs ++ [])) := by
  obtain ⟨oc, od, dV, kV, doc, pm, an, cdv, ct, osl, rfl, lk, hcd, hD, hK⟩ := F.ex
  rcases hD with ⟨_, rfl⟩ | ⟨e, _⟩
  · exact ⟨fun s us ws X l1 l2 => .of_eq (h kV doc pm an cdv ct us ws l1 l2), fun r1 r2 => Vals.pick perm ((r1.append r2).append .nil)⟩
  · exact absurd rfl e
end
end L2
namespace Dn
open PySem L2
section
variable {κ : Cn} {F : Addr → Prop} {ρ : List Addr} {H : Hp}
theorem RVs.pick (perm : List Nat) {p : List PV} {v : List V} (h : RVs κ F ρ H p v) : RVs κ F ρ H (pick perm p) (pick perm v) := by
  have at_ : ∀ {p : List PV} {v : List V}, RVs κ F ρ H p v → ∀ i : Nat, (p[i]? = none ∧ v[i]? = none) ∨ ∃ q w, p[i]? = some q ∧ v[i]? = some w ∧ RV κ F ρ H q w := by
    intro p
    induction p with
    | nil =>
      intro v h i
      simp only [RVs] at h
      subst h
      exact .inl ⟨rfl, rfl⟩
    | cons q p ih =>
      intro v h i
      simp only [RVs] at h
      obtain ⟨w, r, rfl, h1, h2⟩ := h
      cases i with
      | zero => exact .inr ⟨_, _, rfl, rfl, h1⟩
      | succ i => simpa using ih h2 i
  unfold Dn.pick
  induction perm with
  | nil => exact RVs.nil
  | cons i perm ih =>
    rcases at_ h i with ⟨a, b⟩ | ⟨q, w, a, b, r⟩
    · rw [List.filterMap_cons, List.filterMap_cons, a, b]; exact ih
    · rw [List.filterMap_cons, List.filterMap_cons, a, b]; exact RVs.cons r ih
end
section
variable {Γ : Pg} {n : Nat} {c fa : Nat → Addr} {G : Fr} {N : List Str} {sc : Scope} {X : Cx} {κ : Cn} {cs : CS}
variable {a e : Expr} {da : DE} {pos p kpos : Pos} {es : List Expr} {ds dk : DEs} {kws : List Keyword} {nm : Option Str}
def SK (Γ : Pg) (N : List Str) (sc : Scope) (kws : List Keyword) (d : DEs) : Prop := ∀ (n : Nat) (c fa : Nat → Addr) (G : Fr) (X : Cx), Good Γ n c fa G N sc X → L2.PK X kws (tA (cnOf X c) G (callN Γ.tbl n) d)
theorem pk_imp {t u : TA} (h : L2.PK X kws t) (k : ∀ σ H Q, u σ H Q → t σ H Q) : L2.PK X kws u := ⟨fun pos pins s σ H Q I z => h.run pos pins s σ H Q I (k _ _ _ z)⟩
theorem SK.nil : SK Γ N sc [] D.nil := fun n c fa G X g => pk_imp pk_nil fun σ H Q ⟨ρ, st, σp, A, R, o⟩ => o.ret A [] RVs.nil
theorem SK.cons (ha : SE Γ N sc a da) (hs : SK Γ N sc kws dk) : SK Γ N sc (⟨nm, a, kpos⟩ :: kws) (D.cons da dk) := fun n c fa G X g => by
  refine pk_imp (pk_cons (ha n c fa G X g) (hs n c fa G X g)) ?_
  rintro σ H Q ⟨ρ, st, σp, A, R, o⟩
  refine tE_bind A R o fun v st1 ρ1 H1 u e1 A1 R1 r o1 => ?_
  refine tA_bind A1 R1 o1 fun vs st2 ρ2 H2 us e2 A2 R2 rs o2 => ?_
  exact o2.ret A2 _ (RVs.cons (r.mono e2.mono) rs)
theorem SE.callk {f : Nat} {x : Str} {k : KwS} (hx : okF Γ sc f x = true) (hk : k ∈ Γ.kw f) {dfl : List PV} (hd : Γ.dfl f = dfl) (hs : SA Γ N sc (e :: es) ds) (hw : SK Γ N sc kws dk)
    (hall : ∀ env, (backToKw pos (keywordEach kws env)).all (·.1.isSome) = true := by intro _; rfl) (hks : ∀ env, (backToKw pos (keywordEach kws env)).filterMap (·.1) = k.ks := by intro _; rfl)
    (hst : ∀ env, starEach (e :: es) env = (false, eval e env) :: starEach es env := by intro _; rfl) (hpl : ∀ env, ((backTo pos (starEach (e :: es) env)).any (·.1) || (backToKw pos (keywordEach kws env)).any (·.1.isNone)) = false := by intro _; rfl) : SE Γ N sc (.Call (.Name x p) (e :: es) kws pos) (D.callk f k ds dk dfl) := fun n c fa G X g => by
  unfold okF at hx
  simp only [Bool.and_eq_true, decide_eq_true_eq] at hx
  obtain ⟨fd, hfd⟩ := Option.isSome_iff_exists.mp hx.2
  obtain ⟨fdt, ps, gg, dvs, F, kp, kb, hr⟩ := g.env.kw f fd hfd k hk
  refine (g_callk F g.ng g.r0 (gl_of g hx.1.1.1) (g.env.gn f x hx.1.2) kp kb g.ps (hs n c fa G X g) (hw n c fa G X g) (hall _) (hks _) (nameOk_d hx.1.1.2) (hst _) (hpl _)).imp ?_
  rintro σ H Q ⟨ρ, st, σp, A, R, o⟩
  refine tA_bind A R o fun vs st1 ρ1 H1 us e1 A1 R1 rs o1 => ?_
  refine tA_bind A1 R1 o1 fun zs st2 ρ2 H2 ws e2 A2 R2 rz o2 => ?_
  split at o2
  · rename_i hl
    simp only [Bool.and_eq_true] at hl
    have l1 := Nat.eq_of_beq_eq_true hl.1
    have l2 := Nat.eq_of_beq_eq_true hl.2
    refine ⟨rs.length.symm.trans l1, rz.length.symm.trans l2, ?_⟩
    exact sp_of A2 (RVs.pick _ (((rs.mono e2.mono).append rz).append (by rw [← hd]; exact hr _ _ _))) o2
  · exact o2.elim
theorem SE.callk0 {f : Nat} {x : Str} {k : KwS} (hx : okF Γ sc f x = true) (hk : k ∈ Γ.kw f) {dfl : List PV} (hd : Γ.dfl f = dfl) (h0 : k.n = 0) (hw : SK Γ N sc kws dk)
    (hall : ∀ env, (backToKw pos (keywordEach kws env)).all (·.1.isSome) = true := by intro _; rfl) (hks : ∀ env, (backToKw pos (keywordEach kws env)).filterMap (·.1) = k.ks := by intro _; rfl)
    (hpl : ∀ env, ((backTo pos (starEach [] env)).any (·.1) || (backToKw pos (keywordEach kws env)).any (·.1.isNone)) = false := by intro _; rfl) : SE Γ N sc (.Call (.Name x p) [] kws pos) (D.callk f k D.nil dk dfl) := fun n c fa G X g => by
  unfold okF at hx
  simp only [Bool.and_eq_true, decide_eq_true_eq] at hx
  obtain ⟨fd, hfd⟩ := Option.isSome_iff_exists.mp hx.2
  obtain ⟨fdt, ps, gg, dvs, F, kp, kb, hr⟩ := g.env.kw f fd hfd k hk
  rw [h0] at kb
  refine (g_callk0 F g.ng g.r0 (gl_of g hx.1.1.1) (g.env.gn f x hx.1.2) kp kb g.ps (hw n c fa G X g) (hall _) (hks _) (nameOk_d hx.1.1.2) (hpl _)).imp ?_
  rintro σ H Q ⟨ρ, st, σp, A, R, o⟩
  show tA (cnOf X c) G (callN Γ.tbl n) dk σ H _
  have o : Out (cnOf X c) G ρ H ((dk (callN Γ.tbl n) σp st).bind fun zs st => if ([] : List PV).length.beq k.n && zs.length.beq k.ks.length then callN Γ.tbl n f (pick k.perm ([] ++ zs ++ dfl)) st else .bad) (PQ (cnOf X c) G Q) := o
  refine tA_bind A R o fun zs st2 ρ2 H2 ws e2 A2 R2 rz o2 => ?_
  split at o2
  · rename_i hl
    simp only [Bool.and_eq_true] at hl
    have l2 := Nat.eq_of_beq_eq_true hl.2
    refine ⟨rfl, rz.length.symm.trans l2, ?_⟩
    exact sp_of A2 (RVs.pick _ ((RVs.nil.append rz).append (by rw [← hd]; exact hr _ _ _))) o2
  · exact o2.elim
end
end Dn


namespace L2
open PySem PySem.Spec PyProof.Rows
section
variable {X : Cx} {ways : CXT} {lv : Nat} {fa C : Addr} {fd : FuncData} {names : List Str} {prom : Sp} {x : XK}
end
end L2
namespace Dn
open PySem L2
namespace D
end D
section
variable {Γ : Pg} {n : Nat} {c fa : Nat → Addr} {G : Fr} {N : List Str} {sc : Scope} {X : Cx} {κ : Cn} {cs : CS}
variable {a b e : Expr} {da db : DE} {pos p q : Pos}
end
end Dn
namespace Dn
open PySem L2
end Dn


namespace L2
open PySem PySem.Spec PyProof.Rows
section
variable {prog : Program} {w : World} {A : Around} {E : Value → Shared → Prop} {s : Shared}
theorem places_back (n : Nat) : Builtin.Slice.slicePlaces ((n : Int) - 1) (-1) (-1) = n := by
  unfold Builtin.Slice.slicePlaces
  have h1 : ¬ ((-1 : Int) > 0) := by omega
  simp only [h1, if_false]
  have e : ((n : Int) - 1 - -1 - 1) / (- -1) + 1 = (n : Int) := by
    rw [show (- -1 : Int) = 1 by decide, Int.ediv_one]
    omega
  split
  · rw [e]; exact Int.toNat_natCast n
  · rename_i h
    have : n = 0 := by omega
    subst this
    rfl
theorem adjust_back (n : Nat) : Builtin.Slice.sliceAdjust none none (-1) (n : Int) = ((n : Int) - 1, -1) := by
  unfold Builtin.Slice.sliceAdjust
  rfl
theorem pick_back (xs : Array Value) : ((List.range xs.size).filterMap fun (m : Nat) => xs[(((xs.size : Int) - 1) + (m : Int) * (-1)).toNat]?).toArray = xs.toList.reverse.toArray := by
  congr 1
  have e : ∀ l : List Nat, (∀ m ∈ l, m < xs.size) → (l.filterMap fun (m : Nat) => xs[(((xs.size : Int) - 1) + (m : Int) * (-1)).toNat]?) = (l.map fun k => xs.size - 1 - k).filterMap (xs[·]?) := by
    intro l hl
    induction l with
    | nil => rfl
    | cons m l ih =>
      have h1 := hl m List.mem_cons_self
      have : (((xs.size : Int) - 1) + (m : Int) * (-1)).toNat = xs.size - 1 - m := by omega
      simp only [List.filterMap_cons, List.map_cons, this, ih fun k hk => hl k (List.mem_cons_of_mem _ hk)]
  rw [e _ fun m hm => List.mem_range.mp hm, PySem.W.krv_range, List.filterMap_reverse, PySem.W.krv_all]
theorem applied_back {sl : Addr} {vs : Value} {n : Nat} {Q : Int × Int × Nat → Shared → Prop} (hs : s.heap.IsSliceOf sl .none .none vs) (ps : IsPart vs (some (-1)))
    (h : Q (((n : Int) - 1), -1, n) s) : wpAny (model prog w) A (Builtin.Slice.sliceApplied (.ref sl) (pure (n : Int))) Q E s := by
  obtain ⟨os, hos, hcs, hds⟩ := id hs
  unfold Builtin.Slice.sliceApplied Builtin.Slice.sliceFields
  refine wpAny_bind (wpAny_bind (wpAny_field hos hds (x := .none) rfl (wpAny_bind (wpAny_field hos hds (x := .none) rfl (wpAny_bind (wpAny_field hos hds (x := vs) rfl (wpAny_pure ?_)))))))
  refine wpAny_bind (HT.slicePart_ ps ?_)
  show wpAny _ _ (if ((-1 : Int) == 0) = true then _ else _) _ _ s
  rw [if_neg (by decide)]
  refine wpAny_bind (HT.slicePart_ .none (wpAny_bind (HT.slicePart_ .none (wpAny_bind (wpAny_pure ?_)))))
  show wpAny _ _ (match Builtin.Slice.sliceAdjust none none (-1) (n : Int) with | (lo, hi) => pure (lo, (-1 : Int), Builtin.Slice.slicePlaces lo hi (-1))) _ _ s
  rw [adjust_back n]
  show wpAny _ _ (pure (((n : Int) - 1), (-1 : Int), Builtin.Slice.slicePlaces ((n : Int) - 1) (-1) (-1))) _ _ s
  rw [places_back]
  exact wpAny_pure h
theorem getItem_tuple_back {t sl : Addr} {items : Array Value} {vs : Value} {Q : Value → Shared → Prop} (ht : IsTup s.heap t items) (hs : s.heap.IsSliceOf sl .none .none vs) (ps : IsPart vs (some (-1)))
    (h : Q (.ref s.heap.objs.size) { s with heap := s.heap.push { cls := .type "tuple", data := .seq items.toList.reverse.toArray } })
    (hsz : items.size ≤ sizeLine) : wpAny (model prog w) A (getItem (.ref t) (.ref sl)) Q E s := by
  have htake : sizeOk (.seq items.toList.reverse.toArray) := by
    show items.toList.reverse.toArray.size ≤ sizeLine
    rw [List.size_toArray, List.length_reverse, Array.length_toList]
    exact hsz
  obtain ⟨os, hos, hcs, hds⟩ := id hs
  have hTs : s.TypeIs (.ref sl) "slice" := ⟨os, hos, hcs⟩
  unfold getItem
  try with_reducible refine wpAny_holding ?_
  first | refine wpAny_bind (wpAny_pure ?_) | skip
  refine wpAny_bind (wpAny_sequenceKey ht.typeIs (by decide) ?_)
  refine wpAny_bind (wpAny_callSpecial?_slot (name := Str.ofString "__getitem__") ht.typeIs PyProof.Rows.slot_tuple_getitem
    (wpAny_call_entry PyProof.Rows.slot_tuple_getitem ht.typeIs entry_tuple_getitem ?_ (args_tuple_getitem _ _)))
  show wpAny _ _ (Builtin.Tuple.tupleItemsOf (.ref t) >>= _) _ _ s
  refine wpAny_bind (tupleItemsOf_ ht ?_)
  refine wpAny_bind (wpAny_typeOf hTs ?_)
  rw [if_pos (by decide)]
  refine wpAny_bind (applied_back hs ps ?_)
  have hno : ¬ ((((items.size : Int) - 1) == 0 && (-1 : Int) == 1 && items.size == items.size) = true) := by
    intro q
    rw [Bool.and_eq_true, Bool.and_eq_true] at q
    have q1 : (-1 : Int) = 1 := eq_of_beq q.1.2
    omega
  show wpAny _ _ (if (((items.size : Int) - 1) == 0 && (-1 : Int) == 1 && items.size == items.size) = true then _ else _) _ _ s
  rw [if_neg hno, pick_back]
  first
    | exact wpAny_bind (m := Builtin.Tuple.tupleExact _) (wpAny_newObj_type (wpAny_pure ⟨_, rfl, wpAny_pure h⟩) htake)
    | exact wpAny_bind (m := Builtin.Tuple.tupleExact _) (wpAny_newObj_type (wpAny_bind (wpAny_pure (wpAny_pure ⟨_, rfl, wpAny_pure h⟩))) htake)
    | exact wpAny_bind (wpAny_bind (m := Builtin.Tuple.tupleExact _) (wpAny_newObj_type (wpAny_pure (wpAny_pure ⟨_, rfl, wpAny_pure h⟩)) htake))
    | exact wpAny_bind (wpAny_bind (m := Builtin.Tuple.tupleExact _) (wpAny_newObj_type (wpAny_pure ⟨_, rfl, wpAny_pure h⟩) htake))
end
def tRevA (K : PySem.W.Frag) (te : TE) : TE := fun σ H Q => te σ H fun x H1 => ∃ a xs, x = .ref a ∧
  ((SqL K H1 a xs ∧ ∀ p, H1 p = none → Q (.ref p) (upd H1 p (.lst xs.reverse))) ∨ (SqT K H1 a xs ∧ ∀ p o, H1 p = none → o.dict = none → Q (.ref p) (upd H1 p (.frz o (.tup xs.reverse)))))
section
variable {X : Cx}
theorem pe_revA {e : Expr} {te : TE} {k : Nat} {p1 p2 p3 pos : Pos} (he : PE X e te) : PE X (.Subscript e (.Slice none none (some (.UnaryOp .USub (.Constant (.int 1) k p1) p2)) p3) pos) (tRevA X.K te) := by
  refine ⟨fun pins s σ H Q I h => ?_⟩
  refine Subscript_ (thn (he.run pins s σ H _ I h) fun v s1 ⟨x, H1, I1, r1, q1⟩ => ?_)
  obtain ⟨a, xs, ex, q⟩ := q1
  subst ex
  cases r1
  have hst : PO X (some (.UnaryOp .USub (.Constant (.int 1) k p1) p2)) (tPart (tUn (rU fun i => .int (-i)) (tC (.int 1)))) := po_some (pe_un un_neg pe_int)
  refine wpAny_Slice (thn (po_none.run pins s1 σ H1 (fun o H2 => o = none ∧ H2 = H1) I1 ⟨rfl, rfl⟩) fun vl s2 ⟨l, H2, I2, pl, el, e2⟩ => ?_)
  subst el e2
  refine thn (po_none.run pins s2 σ H2 (fun o H3 => o = none ∧ H3 = H2) I2 ⟨rfl, rfl⟩) fun vu s3 ⟨u, H3, I3, pu, eu, e3⟩ => ?_
  subst eu e3
  refine thn (hst.run pins s3 σ H3 (fun o H4 => o = some (-1) ∧ H4 = H3) I3 ⟨1, rfl, -1, rfl, rfl, rfl⟩) fun vs s4 ⟨o, H4, I4, ps, eo, e4⟩ => ?_
  subst eo e4
  have I5 : Inv X pins σ H4 { s4 with heap := s4.heap.push { cls := .type "slice", data := .fields #[vl, vu, vs] } } := I4.kept (t' := s4.toks) fun b ob q => Heap.get?_push_of_some _ q
  show wpAny (model X.prog X.w) X.A (subscriptTail e (.Slice none none (some (.UnaryOp .USub (.Constant (.int 1) k p1) p2)) p3) (.ref a) (.ref s4.heap.objs.size)) (EP X pins σ Q) X.xe { s4 with heap := s4.heap.push { cls := .type "slice", data := .fields #[vl, vu, vs] } }
  rcases q with ⟨hx, q⟩ | ⟨hx, q⟩
  · obtain ⟨its, r, ht, hz⟩ := I5.list hx
    have hlen := r.length
    refine tail_any (ops := [.ref a, .ref s4.heap.objs.size]) ht.isList.typeIs (PySem.slot_list_getitem.lookup) ?_ (by with_unfolding_all rfl)
    refine wpAny_getItem_list_slice ht.isList (Heap.IsSliceOf.new _ vl vu vs) pl pu ps (by decide) ?_ (by rw [List.size_toArray]; omega)
    rw [PySem.W.krv_pick]
    refine ⟨.ref _, _, I5.laid (t' := s4.toks) (o := .lst xs.reverse) (fun b ob q => Heap.get?_push_of_some _ q) (Nat.le_refl _) ?_, rfl, q _ (I5.hok.fresh (Nat.le_refl _))⟩
    exact ⟨by rw [List.length_reverse]; exact hz, _, 0, r.reverse, Heap.get?_push_size _ rfl⟩
  · obtain ⟨its, r, ht, hz⟩ := I5.tuple hx
    have hlen := r.length
    cases pl
    cases pu
    refine tail_any (ops := [.ref a, .ref s4.heap.objs.size]) ht.typeIs PyProof.Rows.slot_tuple_getitem.lookup ?_ (by with_unfolding_all rfl)
    refine getItem_tuple_back ht (Heap.IsSliceOf.new _ .none .none vs) ps ?_ (by rw [List.size_toArray]; omega)
    refine ⟨.ref _, _, I5.laid (t' := s4.toks) (o := .frz { cls := .type "tuple", data := .seq its.toArray.toList.reverse.toArray } (.tup xs.reverse)) (fun b ob q => Heap.get?_push_of_some _ q) (Nat.le_refl _) ?_, rfl, q _ _ (I5.hok.fresh (Nat.le_refl _)) rfl⟩
    exact ⟨Heap.get?_push_size _ rfl, by rw [List.length_reverse]; exact hz, _, r.reverse, IsTup.new _ _⟩
end
end L2
namespace Dn
open PySem L2
namespace O
def rev : PV → Option PV
  | .tup xs => some (.tup xs.reverse)
  | .lst xs => some (.lst xs.reverse)
  | _ => none
end O
namespace D
end D
section
variable {Γ : Pg} {n : Nat} {c fa : Nat → Addr} {G : Fr} {N : List Str} {sc : Scope} {X : Cx} {κ : Cn} {cs : CS}
variable {a b e d : Expr} {da db dd : DE} {pos p : Pos} {es : List Expr} {ds : DEs}
theorem RVs.reverse {F : Addr → Prop} {ρ : List Addr} {H : Hp} : ∀ {ps : List PV} {vs : List V}, RVs κ F ρ H ps vs → RVs κ F ρ H ps.reverse vs.reverse
  | [], vs, h => by simp only [RVs] at h; subst h; simp [RVs]
  | p :: ps, vs, h => by
    simp only [RVs] at h
    obtain ⟨v, r, rfl, h1, h2⟩ := h
    rw [List.reverse_cons, List.reverse_cons]
    exact (RVs.reverse h2).append (RVs.cons h1 RVs.nil)
theorem SE.rev {k : Nat} {p1 p2 p3 : Pos} (ha : SE Γ N sc a da) : SE Γ N sc (.Subscript a (.Slice none none (some (.UnaryOp .USub (.Constant (.int 1) k p1) p2)) p3) pos) (D.op1 O.rev da) := fun n c fa G X g => by
  refine (pe_revA (ha n c fa G X g)).imp ?_
  rintro σ H Q ⟨ρ, st, σp, A, R, o⟩
  refine tE_bind A R o fun v st1 ρ1 H1 u e1 A1 R1 ru o1 => ?_
  obtain ⟨res, ef, k⟩ := o1.of
  have rp := RR.of A1.wd ru
  unfold O.rev at ef
  split at ef
  · rename_i eq
    cases ef
    rw [eq] at rp
    obtain ⟨a, xs, rfl, h1, r1⟩ := rr_tup rp
    exact ⟨a, xs, rfl, .inr ⟨h1, fun p o hp od => newT A1 (fun ρ' H' u e A r => k ρ' H' e A u r) r1.reverse hp od⟩⟩
  · rename_i eq
    cases ef
    rw [eq] at rp
    obtain ⟨a, xs, rfl, h1, r1⟩ := rr_lst rp
    exact ⟨a, xs, rfl, .inl ⟨SqL.of h1, fun p hp => newL A1 (fun ρ' H' u e A r => k ρ' H' e A u r) r1.reverse hp⟩⟩
  · cases ef
end
end Dn


namespace L2
open PySem PySem.Spec PyProof.Rows
section
variable {X : Cx} {ways : CXT} {lv : Nat} {fa C : Addr} {fd : FuncData} {names : List Str} {prom : Sp} {dv : List V} {dvl : List Value} {x : XK}
variable {pins : List (Addr × Obj)} {σ : St} {H : Hp} {s : Shared} {Q : VK} {us : List Value} {vs : List V}
end
end L2
namespace Dn
open PySem L2
def sInt (i : Int) : Str := toString i
namespace O
def str : PV → Option PV
  | .int i => if i.natAbs.log2 < 1920 then some (.str (sInt i)) else none
  | _ => none
end O
namespace D
end D
section
variable {Γ : Pg} {n : Nat} {c fa : Nat → Addr} {G : Fr} {N : List Str} {sc : Scope} {X : Cx} {κ : Cn} {cs : CS}
variable {a b e : Expr} {da db : DE} {pos p q : Pos}
end
end Dn


namespace L2
open PySem PySem.Spec PyProof.Rows
section
variable {X : Cx} {ways : CXT} {lv n : Nat} {fa C : Addr} {fd : FuncData} {names ks : List Str} {prom : Sp} {x : XK} {nm m : Str} {p pos apos : Pos} {e o : Expr} {es : List Expr} {ta : TE} {t tk : TA} {kws : List Keyword}
variable {pins : List (Addr × Obj)} {σ : St} {H : Hp} {s : Shared} {Q : VK} {us ws : List Value} {vs zs : List V} {g : List Value → List Value → List Value} {gV : List V → List V → List V}
end
end L2
namespace Dn
open PySem L2
namespace D
end D
section
variable {Γ : Pg} {n : Nat} {c fa : Nat → Addr} {G : Fr} {N : List Str} {sc : Scope} {X : Cx} {κ : Cn} {cs : CS}
variable {a b e : Expr} {da db : DE} {pos p q apos : Pos} {kws : List Keyword} {dk : DEs}
end
end Dn


namespace Dn
open PySem PySem.W PySem.HandSPX
section
variable {prog : Program} {w : World} {A : Around} {E : Value → Shared → Prop} {R : Result → Shared → Prop} {hp : Heap} {gn : Array GenState} {dw : Drawn} {tk : Nat} {sys : OsState}
variable {nm qn : Str} {C N : Addr} {bs bm bmB : List Value} {hd : Bool} {sn : List Str} {sb : List Value} {ab : Bool} {co : Option Bool} {di : Option Addr} {a0 a1 a2 a3 a5 : Option Value} {B nI iI : String} {kw : List (Str × Value)}
theorem check_kw (F : ExcBaseFacts B nI iI bmB) (same : ∀ T : String, bm.contains (.type T) = bmB.contains (.type T)) {Q : Unit → Shared → Prop} (at_ : hp.get? C = some (excClassObj nm qn C N bs bm hd sn sb ab co di a0 a1 a2 a3 a5 nI))
    (fin : Q () ⟨hp, gn, dw, tk, sys⟩) : wpAny (model prog w) A (checkBuiltinCall nI ⟨[.ref C], kw⟩) Q E ⟨hp, gn, dw, tk, sys⟩ := by
  have here : (Value.ref C :: bm).contains (.type B) = true := by rw [List.contains_cons, same, F.hasB, Bool.or_true]
  have ns := F.noStar
  simp only [checkBuiltinCall, F.newKind, F.newSplit, F.newRow]
  repeat (first | refine wpAny_loadPart_at at_ ?_ | (refine wpAny_isSubtype_exc at_ ?_; rw [here]) | refine wpAny_staticBase_exc at_ ?_ | refine wpAny_madeBy_exc at_ ?_ | simp only [bne_self_eq_false, Bool.false_eq_true, if_false] | wp_step)
  exact fin
theorem new_kw (F : ExcBaseFacts B nI iI bmB) (same : ∀ T : String, bm.contains (.type T) = bmB.contains (.type T)) (at_ : hp.get? C = some (excClassObj nm qn C N bs bm hd sn sb ab co di a0 a1 a2 a3 a5 nI))
    (fin : R (.ok (.ret (.ref (hp.objs.size + 1)))) ⟨(hp.push (W.kdv_tup [])).push (excO C hp.objs.size), gn, dw, tk, sys⟩) : codeAny (model prog w) A (.builtin nI ⟨[.ref C], kw⟩) R ⟨hp, gn, dw, tk, sys⟩ := by
  have en := F.ends
  have c1 : (Value.ref C :: bm).contains (.type B) = true := by rw [List.contains_cons, same, F.hasB, Bool.or_true]
  have c2 : (Value.ref C :: bm).contains (.type "AttributeError") = false := by rw [List.contains_cons, same, F.noAttr]; rfl
  have c3 : (Value.ref C :: bm).contains (.type "NameError") = false := by rw [List.contains_cons, same, F.noName]; rfl
  have few : ([] : List Value).length ≤ sizeLine := Nat.zero_le _
  refine codeAny_builtinAt F.entry ?_
  unfold Builtin.«BaseException.__new__»
  refine wpAt_bind ?_
  show wpAt _ _ _ (stack >>= _) _ _ _
  refine wpAt_bind (wpAt_stack fun p below => wpAt_of_wpAny ?_)
  wp_walk
  refine wpAt_of_wpAny ?_
  rw [F.owner]
  repeat (first | with_reducible refine wpAny_madeHere_exc F.canon at_ ?_ | with_reducible refine wpAny_loadPart_at at_ ?_ | (with_reducible refine wpAny_isSubtype_exc at_ ?_; first | rw [c1] | rw [c2] | rw [c3]) | wp_step)
  show R _ _
  rw [Heap.size_push]
  exact fin
theorem typeCall_kw (F : ExcBaseFacts B nI iI bmB) (same : ∀ T : String, bm.contains (.type T) = bmB.contains (.type T)) {fI : Addr} {Q : Fin → Shared → Prop} (at_ : hp.get? C = some (excClassObj nm qn C N bs bm hd sn sb ab co di a0 a1 a2 a3 a5 nI))
    (li : Looks (model prog w) hp (typeLookup (.ref C) "__init__") (some (.ref fI))) (lb : ∀ self, Looks (model prog w) hp (bindSpecial (.ref fI) self) (.ref fI, [self]))
    (fin : codeAny (model prog w) A (.call (.ref fI) ⟨[.ref (hp.objs.size + 1)], kw⟩) (fun r s' => match r with | .ok (.ret v) => v = .none ∧ Q (.done (.ret (.ref (hp.objs.size + 1)))) s' | .ok _ => False | .error e => E e s') ⟨(hp.push (W.kdv_tup [])).push (excO C hp.objs.size), gn, dw, tk, sys⟩) :
    wpAny (model prog w) A (Builtin.«type.__call__» ⟨[.ref C], kw⟩) Q E ⟨hp, gn, dw, tk, sys⟩ := by
  repeat (first | with_reducible refine wpAny_loadPart_at at_ ?_ | with_reducible refine wpAny_madeBy_exc at_ ?_ | wp_step)
  refine codeAny_call_builtin_code (Code.quiet_builtin _ F.quiet) (check_kw F same at_ ?_)
  refine new_kw F same at_ ?_
  show wpAny _ _ _ _ _ _
  have kp : ∀ b o, hp.get? b = some o → ((hp.push (W.kdv_tup [])).push (excO C hp.objs.size)).get? b = some o := fun b o e => Heap.get?_push_of_some _ (Heap.get?_push_of_some _ e)
  have at1 := kp _ _ at_
  have got : ((hp.push (W.kdv_tup [])).push (excO C hp.objs.size)).get? (hp.objs.size + 1) = some (excO C hp.objs.size) := by heap_get
  have own : (Value.ref C :: bm).contains (.ref C) = true := by simp
  have li1 := li.keeps kp
  have lb1 := (lb (.ref (hp.objs.size + 1))).keeps kp
  unfold isInstance
  repeat (first | with_reducible refine wpAny_loadPart_at got ?_ | (with_reducible refine wpAny_isSubtype_exc at1 ?_; rw [own]) | wp_step)
  show wpAny _ _ (typeLookup (.ref C) _) _ _ _
  refine li1.at ?_
  refine wpAny_holding (wpAny_bind (lb1.at ?_))
  refine wpAny_bind (wpAny_call (codeAny_mono fin fun r s' z => ?_))
  rcases r with e | (v | _ | _ | _) <;> first | exact z | exact z.elim | skip
  obtain ⟨rfl, z⟩ := z
  first
    | exact wpAny_pure (wpAny_pure z)
    | (wp_walk; exact z)
theorem call_kw (F : ExcBaseFacts B nI iI bmB) (same : ∀ T : String, bm.contains (.type T) = bmB.contains (.type T)) {fI : Addr} (at_ : hp.get? C = some (excClassObj nm qn C N bs bm hd sn sb ab co di a0 a1 a2 a3 a5 nI))
    (li : Looks (model prog w) hp (typeLookup (.ref C) "__init__") (some (.ref fI))) (lb : ∀ self, Looks (model prog w) hp (bindSpecial (.ref fI) self) (.ref fI, [self]))
    (fin : codeAny (model prog w) (A.under (.builtin "type.__call__" ⟨[.ref C], kw⟩)) (.call (.ref fI) ⟨[.ref (hp.objs.size + 1)], kw⟩) (InitBack (hp.objs.size + 1) R) ⟨(hp.push (W.kdv_tup [])).push (excO C hp.objs.size), gn, dw, tk, sys⟩) :
    codeAny (model prog w) A (.call (.ref C) ⟨[], kw⟩) R ⟨hp, gn, dw, tk, sys⟩ := by
  have f1 := tc_lookup
  have f2 := tc_bind (.ref C)
  have ty : (⟨hp, gn, dw, tk, sys⟩ : Shared).TypeIs (.ref C) "type" := ⟨_, at_, rfl⟩
  refine codeAny_of_tree ?_
  show wpAny _ _ (callAny (.ref C) _) _ _ _
  repeat (any_goals (first | assumption | with_reducible refine wpAny_loadPart_at at_ ?_ | wp_step))
  refine ⟨rfl, ?_⟩
  refine codeAny_call_builtin_at (Code.quiet_builtin _ (by decide +kernel)) entry_typeCall (wpAny_check_type_call_sub at_ (typeCall_kw F same at_ li lb ?_))
  refine codeAny_mono fin fun r s' z => ?_
  rcases r with e | (v | _ | _ | _) <;> exact z
end
end Dn
namespace L2
open PySem PySem.Spec PyProof.Rows
def tMkW (C : Addr) (kl : Nat) (sp : Sp) (gV : List V → List V → List V) (tk : TA) : St → Hp → XK → Prop := fun σ H Q => tk σ H fun zs H1 => zs.length = kl ∧ ∀ a, H1 a = none → sp (gV [.ref a] zs) (upd H1 a (exo a C none))
  (fun v H2 => v = .non ∧ ∃ (d : Addr) (fs : List (Str × V)), H2 a = some (exo a C (some d)) ∧ H2 d = some (exd d fs) ∧ H1 d = none ∧ Q (.ref C) (some d) (upd (del H2 a) d (.xd fs))) (fun _ _ _ => False)
section
variable {X : Cx} {CX : CXT} {x : Str} {C fI : Addr} {k : Nat} {fd : FuncData} {ps ks : List Str} {sp : Sp} {p pos : Pos} {kws : List Keyword} {tk : TA} {g : List Value → List Value → List Value} {gV : List V → List V → List V}
theorem pmk_names (T : OexC X.K C) (iC : PySem.W.findIn X.K (.ref C) "__init__" = some (some (.ref fI))) (tI : PySem.W.typeIn X.K (.ref fI) = some (.type "function")) (F1 : FnOk X.prog X.w X.K X.mg X.base CX k fI fd ps sp) (hr : Room (k + 1) X.A)
    (kb : KBn X.K fd ps 1 ks g gV) (hx : Passes CX X (fun _ _ _ => False)) (hg : Gl X x) (hm : X.mg x = some (.ref C)) (hkw : PK X kws tk) (hall : (backToKw pos (keywordEach kws X.env)).all (·.1.isSome) = true) (hks : (backToKw pos (keywordEach kws X.env)).filterMap (·.1) = ks)
    (nd : (x == ("__debug__" : Str)) = false) (hpl : ((backTo pos (starEach [] X.env)).any (·.1) || (backToKw pos (keywordEach kws X.env)).any (·.1.isNone)) = false) : PMk X (.Call (.Name x p) [] kws pos) (tMkW C ks.length sp gV tk) := by
  intro pins s σ H Q I z
  obtain ⟨nm, q, N, bs, bm, sn, sub, ab, col, dd, k0, k1, k2, k3, k5, hC, hbm⟩ := T.cls
  refine wpAny_Call_Name_kw (ld_glob I hg hm ?_ nd)
  refine PySem.W.callWith_KW0 (h₀ := X.base) I.ok.mod.kin T.kC hall ?_ hpl
  refine thn (hkw.run pos pins s σ H _ I z) fun ws s1 ⟨zs, H1, I1, rz, lz, q1⟩ => ⟨I1.kIn, ?_⟩
  rw [hks]
  obtain ⟨hp, gn, dr, tk, os⟩ := s1
  have room : hp.objs.size ≤ hp.objs.size + 1 := Nat.le_succ _
  have free : H1 (hp.objs.size + 1) = none := I1.hok.fresh room
  have pr := q1 (hp.objs.size + 1) free
  have keep : ∀ b o, hp.get? b = some o → ((hp.push (PySem.W.kdv_tup [])).push (PySem.HandSPX.excO C hp.objs.size)).get? b = some o := fun b o e => Heap.get?_push_of_some _ (Heap.get?_push_of_some _ e)
  have got : ((hp.push (PySem.W.kdv_tup [])).push (PySem.HandSPX.excO C hp.objs.size)).get? (hp.objs.size + 1) = some (PySem.HandSPX.excO C hp.objs.size) := by heap_get
  have I2 : Inv X pins σ (upd H1 (hp.objs.size + 1) (exo (hp.objs.size + 1) C none)) ⟨(hp.push (PySem.W.kdv_tup [])).push (PySem.HandSPX.excO C hp.objs.size), gn, dr, tk, os⟩ :=
    I1.laid (t' := tk) (a := hp.objs.size + 1) (o := exo (hp.objs.size + 1) C none) (h' := (hp.push (PySem.W.kdv_tup [])).push (PySem.HandSPX.excO C hp.objs.size)) keep room (exo_ok got)
  have r1 : Vals [V.ref (hp.objs.size + 1)] [Value.ref (hp.objs.size + 1)] := .cons rfl .nil
  have e2 : ws.length = ks.length := rz.length.symm.trans lz
  refine wpAny_call (Dn.call_kw F.excBase_ValueError (fun Y => PySem.HandSPX.refsVE_contains Y bm hbm) (I1.kIn _ _ hC) (PySem.W.looks_findIn I1.kIn iC) (fun self => PySem.W.bind_fn I1.kIn self tI)
    (codeAny_mono (F1.run _ X.stack _ _ ⟨[Value.ref (hp.objs.size + 1)], ks.zip ws⟩ (g [Value.ref (hp.objs.size + 1)] ws) _ _ (fun _ _ _ => False) (hr.make C [] (ks.zip ws)) (I2.env0.make C [] (ks.zip ws)) (kb.to _ [Value.ref (hp.objs.size + 1)] ws I2.kIn rfl e2) (kb.rel r1 rz) pr) fun r s' en => ?_))
  cases r with
  | error er => exact hx pins σ _ _ er s' I2 en
  | ok fl =>
    cases fl with
    | ret u =>
      obtain ⟨v, H2, os2, bare2, un2, hok2, rv, ev, d, fs, ea, ed, hd1, q2⟩ := en
      subst ev
      obtain ⟨h2, g2, d2, t2, os'⟩ := s'
      exact ⟨rv, mk_end (raises_own T.exC T.tyC) I1 room keep un2 hok2 os2 bare2 ea ed hd1 q2⟩
    | next => exact False.elim en
    | brk => exact False.elim en
    | cont => exact False.elim en
end
end L2
namespace Dn
open PySem L2
namespace D
def newTmK (C f : Nat) (ws : DEs) : DE := fun c σ st => match c f [] st with
  | .ok _ _ => (ws c σ st).bind fun zs st2 => (match zs with
    | [.int j, .int i] => if i.natAbs < 1000000000000000000000000000000 ∧ j.natAbs < 1000000000000000000000000000000 then .ok (.ref st2.length) (st2 ++ [.exo C [(("most" : Str), .int j), (("many" : Str), .int i)]]) else .bad
    | _ => .bad)
  | _ => .bad
end D
section
variable {Γ : Pg} {n : Nat} {c fa : Nat → Addr} {G : Fr} {N : List Str} {sc : Scope} {X : Cx} {κ : Cn} {cs : CS} {p pos : Pos} {kws : List Keyword} {dk : DEs}
theorem SE.newTmK {C f : Nat} (hx : okTm Γ sc C = true) (hw : SK Γ N sc kws dk)
    (hall : ∀ env, (backToKw pos (keywordEach kws env)).all (·.1.isSome) = true := by intro _; rfl) (hks : ∀ env, (backToKw pos (keywordEach kws env)).filterMap (·.1) = [("most" : Str), ("many" : Str)] := by intro _; rfl)
    (hpl : ∀ env, ((backTo pos (starEach [] env)).any (·.1) || (backToKw pos (keywordEach kws env)).any (·.1.isNone)) = false := by intro _; rfl) :
    SE Γ N sc (.Call (.Name ("TooMany" : Str) p) [] kws pos) (D.newTmK C f dk) := fun n c fa G X g => by
  obtain ⟨hg, cs, T, _, xv⟩ := okTm_at g hx
  obtain ⟨_, M, kb⟩ := xv.two
  cases n with
  | zero =>
    refine ⟨fun pins s σ H Z I h => ?_⟩
    obtain ⟨ρ, st, σp, A, R, o⟩ := h
    exact (show False from o).elim
  | succ m =>
    have room : Room (1 + 1) X.A := g.room.mono (by omega)
    refine (pe_made (pmk_names (CX := L2.CX X.prog X.w) (k := 1) M.T M.iC M.tI (tm_fn M) room kb passL hg M.mx (hw _ c fa G X g) (hall _) (hks _) rfl (hpl _))).imp ?_
    rintro σ H Q ⟨ρ, st, σp, A, R, o⟩
    unfold D.newTmK at o
    split at o
    rotate_left
    · exact o.elim
    refine tA_bind A R o fun zs st2 ρ2 H2 ws e2 A2 R2 rz o2 => ?_
    split at o2
    rotate_left
    · exact o2.elim
    rename_i j i
    split at o2
    rotate_left
    · exact o2.elim
    rename_i hb
    obtain ⟨b1, b2⟩ := hb
    simp only [RVs, RV] at rz
    obtain ⟨_, _, rfl, rfl, _, _, rfl, rfl, rfl⟩ := rz
    refine ⟨rfl, fun ad na => ⟨ad, i, j, rfl, b1, b2, upd_same, fun dx hd ne => ?_⟩⟩
    have hd' : H2 dx = none := by rwa [upd_ne ne] at hd
    have gr := raise_keeps (u1 := exo ad (c C) none) (u2 := exd dx [(("many" : Str), .int i)]) (u3 := exo ad (c C) (some dx)) (u4 := exd dx [(("most" : Str), .int j), (("many" : Str), .int i)]) (u5 := .xd [(("most" : Str), .int j), (("many" : Str), .int i)]) na hd'
    refine ⟨rfl, dx, _, by rw [upd_ne (Ne.symm ne), upd_same], upd_same, hd', ?_⟩
    refine ⟨_, rfl, fun a na2 => ?_⟩
    have tx : TExt H2 _ := ⟨fun b o h _ => gr b o h, fun b h => by
      cases q : H2 b with
      | none => exact absurd q h
      | some w => rw [gr b w q]; simp⟩
    obtain ⟨e3, A3⟩ := at_text (κ := cnOf X c) A2 tx (A2.wd.tabs.ext gr)
    have nda : dx ≠ a := fun z => by rw [← z, upd_same] at na2; cases na2
    have e4 := ext_add (ρ := ρ2) (o := exz a (c C) (some dx)) na2 _ rfl
    refine o2 (ρ2 ++ [a]) _ (e3.trans e4) (A3.step e4 (A3.wd.add na2 ⟨some dx, _, upd_same, .inr ⟨dx, rfl, by rw [upd_ne nda]; exact upd_same, ?_, by simp [RFs, RV]⟩⟩)) _ ?_
    · rintro (z | z)
      · exact A2.wd.dom dx z hd'
      · rcases List.mem_append.mp z with z | z
        · exact A2.wd.has z hd'
        · exact nda (List.mem_singleton.mp z)
    · simp only [RV]
      exact ⟨a, rfl, by rw [← A2.wd.len]; simp⟩
end
end Dn


namespace L2
open PySem PySem.Spec PyProof.Rows
theorem law_gT {P : Program} {w : World} {K : PySem.W.Frag} {mg mb : Str → Option Value} {ways : CXT} {lv : Nat} {fa a : Addr} {ts : List (Addr × Addr)} {fd : FuncData} {nm : Str} {prom : Sp} {t0 : Shared} {vs : List Value} {ns : List Int}
    (kin : K.In t0.heap) (gl : t0.heap.Ns mainGlobals mg) (bn : t0.heap.Ns builtinsNs mb) (bb : ∀ x : Str, x ≠ "__name__" → mb x = bootBuiltins x) (nol : t0.heap.NoLimit) (nogen : t0.gens = #[])
    (mt : ∀ t ∈ ts, t0.heap.get? t.2 = some { cls := .none, data := .fields #[] }) (out : ∀ t ∈ ts, K.lookup t.2 = none) (hd : ∀ t ∈ ts, PySem.W.CodeHd t0.heap t.1 t.2)
    (bmod : ∃ (bm : Addr) (ob : Obj), mg "__builtins__" = some (.ref bm) ∧ bm ≠ builtinsNs ∧ t0.heap.get? bm = some ob ∧ ob.cls = .type "module" ∧ ob.dict = some builtinsNs ∧ ob.data = .plain)
    (sat : t0.heap.get? a = some { cls := .type "list", data := .seq vs.toArray }) (isn : IntsAre vs ns) (short : ns.length ≤ sizeLine) (ro : Room lv callerA)
    (F : ∀ base : Heap, K.In base → base.Ns mainGlobals mg → (∀ t ∈ ts, LamX.TabB base mg t.1 t.2) → FnG P w K mg base ways lv fa fd [nm] prom) (bi : ∀ (s : Shared) (u : Value), BindsTo s fd ⟨[u], []⟩ [(nm, u)])
    (pr : ∀ H : Hp, (∀ t ∈ ts, H t.2 = some (.tbl #[])) → SqL K H a (ns.map V.int) → prom [.ref a] H (fun v _ => v = .bl true) fun _ _ _ => False) (nox : ∀ H e s', ways [] H t0 (fun _ _ _ => False) e s' → False) :
    codeAny (model P w) callerA (.call (.ref fa) ⟨[.ref a], []⟩) (fun r s' => r = .ok (.ret (.bool true)) ∧ OldK t0.heap s'.heap ∧ s'.os = t0.os ∧ AllBare s'.gens) t0 := by
  have rv := vals_ints isn
  have lenV := isn.length
  have mtE : ∀ b : Addr, b ∈ ts.map (·.2) → t0.heap.get? b = some { cls := .none, data := .fields #[] } := fun b hb => by
    obtain ⟨t, ht, rfl⟩ := List.mem_map.mp hb
    exact mt t ht
  have aNo : a ∉ ts.map (·.2) := fun z => by
    have e := (mtE a z).symm.trans sat
    have e' := congrArg Obj.data (Option.some.inj e)
    exact Data.noConfusion e'
  have core : ∀ H : Hp, (∀ t ∈ ts, H t.2 = some (.tbl #[])) → (∀ b, H b = none ∨ b ∈ ts.map (·.2) ∨ ∃ o xs, H b = some (.frz o (.lst xs))) → SqL K H a (ns.map V.int) → HOk P w H t0.heap → (∀ b, H b ≠ none → b = a ∨ b ∈ ts.map (·.2)) → (H a ≠ none → K.lookup a = none) →
      codeAny (model P w) callerA (.call (.ref fa) ⟨[.ref a], []⟩) (fun r s' => r = .ok (.ret (.bool true)) ∧ OldK t0.heap s'.heap ∧ s'.os = t0.os ∧ AllBare s'.gens) t0 := by
    intro H hT hO hS hok hA hK
    have free : ∀ {b : Addr} {o : Obj}, t0.heap.get? b = some o → (∀ us n, o.data ≠ .seq us n) → o.data ≠ .fields #[] → H b = none := fun {b o} e d1 d2 => by
      by_cases z : H b = none
      · exact z
      · rcases hA b z with e' | e'
        · subst e'
          rw [sat] at e
          cases e
          exact absurd rfl (d1 _ _)
        · rw [mtE b e'] at e
          cases e
          exact absurd rfl d2
    have freeD : ∀ {b : Addr} {o : Obj} {es : Array DictEntry} {ep : Nat}, t0.heap.get? b = some o → o.data = .dict es ep → H b = none := fun {b o es ep} e d =>
      free e (fun us n z => by rw [d] at z; cases z) fun z => by rw [d] at z; cases z
    have spaces : ∀ {b : Addr} {m : Str → Option Value}, t0.heap.Ns b m → (hidT t0.heap H).Ns b m := fun {b m} ⟨o, es, ep, e, d, r⟩ => ⟨o, es, ep, hidT_get e (freeD e d), d, r⟩
    have kinB : K.In (hidT t0.heap H) := fun b o e => hidT_get (kin b o e) (by
      by_cases z : H b = none
      · exact z
      · rcases hA b z with e' | e'
        · subst e'
          rw [hK z] at e
          cases e
        · obtain ⟨t, ht, rfl⟩ := List.mem_map.mp e'
          rw [out t ht] at e
          cases e)
    obtain ⟨mc, l1, l2⟩ := nol
    have tbs : ∀ t ∈ ts, LamX.TabB (hidT t0.heap H) mg t.1 t.2 := fun t ht => by
      have hmt := mt t ht
      refine ⟨?_, ?_, fun z => ?_⟩
      · obtain ⟨o, us, fl, tf, fg, tg, iF, tx, tt, k1, k2, k3, k4, k5, k6, k7, k8, k9, kn⟩ := hd t ht
        exact ⟨o, us, fl, tf, fg, tg, iF, tx, tt, hidT_get k1 (free k1 (fun vs n z => by rw [k3] at z; cases z) fun z => by rw [k3] at z; cases z; simp at k4), k2, k3, k4, k5, k6, k7, k8, k9, kn⟩
      · obtain ⟨bm, ob, b1, b2, b3, b4, b5, b6⟩ := bmod
        refine ⟨bm, ob, b1, b2, fun q => ?_, fun q => ?_, hidT_get b3 (free b3 (fun vs n z => by rw [b6] at z; cases z) fun z => by rw [b6] at z; cases z), b4, b5, b6⟩
        · obtain ⟨o, es, ep, e, d, _⟩ := gl
          rw [q, e] at b3
          cases b3
          rw [d] at b6
          cases b6
        · rw [q, hmt] at b3
          cases b3
          cases b6
      · obtain ⟨o, es, ep, e, d, _⟩ := gl
        rw [z, hmt] at e
        cases e
        cases d
    have e0 : Env0 P w K mg (hidT t0.heap H) callerA [] t0 H := ⟨rfl, ⟨kinB, spaces gl, ⟨mb, spaces bn, bb⟩, ⟨mc, spaces l1, l2⟩⟩, fun b o e => of_hidT e, Nat.le_of_eq (hidT_size _ _), trivial, fun b hb => absurd (show b ∈ ([] : List Addr) from hb) (by simp), hok, .of_eq nogen⟩
    refine codeAny_mono ((F _ kinB (spaces gl) tbs).run callerA [] t0 H ⟨[.ref a], []⟩ [.ref a] [.ref a] _ _ callerNoG ro e0 (bi t0 (.ref a)) (.cons rfl .nil) (pr H hT hS)) fun r s' z => ?_
    match r, z with
    | .error e, z => exact (nox H e s' z).elim
    | .ok .next, z => exact False.elim z
    | .ok .brk, z => exact False.elim z
    | .ok .cont, z => exact False.elim z
    | .ok (.ret u), ⟨v, H', os, bare, un, hok', r', q⟩ =>
      have q' : v = .bl true := q
      subst q'
      obtain rfl : u = Value.bool true := r'
      have stays : ∀ b o, b ∉ ts.map (·.2) → t0.heap.get? b = some o → s'.heap.get? b = some o := fun b o nb e => by
        rcases hO b with z | z | ⟨ob, xs, z⟩
        · exact un.keep b o e z (by intro z; exact absurd (show b ∈ ([] : List Addr) from z) (by simp)) (by simp)
        · exact absurd z nb
        · obtain ⟨e1, _⟩ := hok b _ z
          obtain ⟨e2, _⟩ := hok' b _ (un.frzs b ob _ z)
          rw [e] at e1
          cases e1
          exact e2
      have wide : ∀ t ∈ ts, ∃ more : Array Value, s'.heap.get? t.2 = some { cls := .none, data := .fields more } := fun t ht => by
        obtain ⟨more, z⟩ := un.tbls t.2 #[] (hT t ht)
        exact ⟨_, hok' t.2 _ z⟩
      refine ⟨rfl, ⟨fun b o e => ?_, fun b o e => ?_⟩, os, bare⟩ <;> by_cases hb : b ∈ ts.map (·.2)
      · obtain ⟨t, ht, rfl⟩ := List.mem_map.mp hb
        obtain ⟨more, hm⟩ := wide t ht
        rw [mt t ht] at e
        cases e
        exact .inr (.inl ⟨((hd t ht).tab (mt t ht)).isCodeTable, rfl, #[], more, rfl, by rw [Array.empty_append]; exact hm⟩)
      · exact .inl (stays b o hb e)
      · obtain ⟨t, ht, rfl⟩ := List.mem_map.mp hb
        obtain ⟨more, hm⟩ := wide t ht
        exact ⟨_, hm⟩
      · exact ⟨o, stays b o hb e⟩
  have memT : ∀ t ∈ ts, t.2 ∈ ts.map (·.2) := fun t ht => List.mem_map.mpr ⟨t, ht, rfl⟩
  by_cases hk : K.lookup a = none
  · have H0 : ∃ H : Hp, H = fun b => if b = a then some (.frz { cls := .type "list", data := .seq vs.toArray } (.lst (ns.map V.int))) else if b ∈ ts.map (·.2) then some (.tbl #[]) else none := ⟨_, rfl⟩
    obtain ⟨H, hH⟩ := H0
    have ha : H a = some (.frz { cls := .type "list", data := .seq vs.toArray } (.lst (ns.map V.int))) := by rw [hH]; exact if_pos rfl
    have ht : ∀ b, b ∈ ts.map (·.2) → H b = some (.tbl #[]) := fun b hb => by
      rw [hH]
      show (if b = a then _ else _) = _
      rw [if_neg (show ¬ b = a from fun z => aNo (z ▸ hb)), if_pos hb]
    have hn : ∀ b, b ≠ a → b ∉ ts.map (·.2) → H b = none := fun b h1 h2 => by
      rw [hH]
      show (if b = a then _ else _) = _
      rw [if_neg h1, if_neg h2]
    refine core H (fun t h => ht _ (memT t h)) (fun b => ?_) (.inl (.inr ⟨_, ha⟩)) (fun b u z => ?_) (fun b z => ?_) fun _ => hk
    all_goals by_cases hb : b = a
    · exact .inr (.inr ⟨_, _, by rw [hb]; exact ha⟩)
    · by_cases hb2 : b ∈ ts.map (·.2)
      · exact .inr (.inl hb2)
      · exact .inl (hn b hb hb2)
    · subst hb
      rw [ha] at z
      cases z
      exact ⟨sat, by rw [List.length_map]; exact short, vs, _, rv, sat⟩
    · by_cases hb2 : b ∈ ts.map (·.2)
      · rw [ht b hb2] at z
        cases z
        exact mtE b hb2
      · rw [hn b hb hb2] at z
        cases z
    · exact .inl hb
    · by_cases hb2 : b ∈ ts.map (·.2)
      · exact .inr hb2
      · exact absurd (hn b hb hb2) z
  · obtain ⟨o, ho⟩ := Option.ne_none_iff_exists'.mp hk
    have e := kin a o ho
    rw [sat] at e
    cases e
    have ht : ∀ b, b ∈ ts.map (·.2) → (fun b => if b ∈ ts.map (·.2) then some (HO.tbl #[]) else none : Hp) b = some (.tbl #[]) := fun b hb => if_pos hb
    refine core (fun b => if b ∈ ts.map (·.2) then some (.tbl #[]) else none) (fun t h => ht _ (memT t h)) (fun b => ?_) (.inr ⟨_, vs.toArray, _, ho, rfl, rfl, rfl, by rw [List.size_toArray, lenV]; exact short, by simpa using rv⟩) (fun b u z => ?_) (fun b z => ?_) fun z => absurd (if_neg aNo) z
    all_goals by_cases hb : b ∈ ts.map (·.2)
    · exact .inr (.inl hb)
    · exact .inl (if_neg hb)
    · have z' := (ht b hb).symm.trans z
      cases z'
      exact mtE b hb
    · have z' := (if_neg hb).symm.trans z
      cases z'
    · exact .inr hb
    · exact absurd (if_neg hb) z
theorem walk_gT {l : PySem.W.OpenLaw} {most lv : Nat} {q : Program} {loose : List Str} {XP : (Str → Option Value) → Heap → Prop} {YP : World → Heap → Prop} {d : DefRec} {ways : CXT} {nm : Str}
    (hn : l.most = some most) (hn2 : most ≤ sizeLine) (nodf : d.params.defaults = []) (ro : Room lv callerA)
    (F : ∀ (w : World) (mg : Str → Option Value) (fa : Addr) (h : Heap), YP w h → h.Ns mainGlobals mg → mg d.name = some (.ref fa) →
      ∃ (K : PySem.W.Frag) (ts : List (Addr × Addr)) (fd : FuncData) (prom : Sp), K.In h ∧ (∀ t ∈ ts, h.get? t.2 = some { cls := .none, data := .fields #[] }) ∧ (∀ t ∈ ts, K.lookup t.2 = none) ∧ (∀ t ∈ ts, PySem.W.CodeHd h t.1 t.2) ∧ (∀ (s : Shared) (u : Value), BindsTo s fd ⟨[u], []⟩ [(nm, u)]) ∧
        (∀ (H : Hp) (a : Addr) (ns : List Int), ns.length ≤ most → (∀ t ∈ ts, H t.2 = some (.tbl #[])) → SqL K H a (ns.map V.int) → prom [.ref a] H (fun v _ => v = .bl true) fun _ _ _ => False) ∧
        ∀ base : Heap, K.In base → base.Ns mainGlobals mg → (∀ t ∈ ts, LamX.TabB base mg t.1 t.2) → FnG l.prog w K mg base ways lv fa fd [nm] prom)
    (nox : ∀ (H : Hp) (s : Shared) (e : Value) (s' : Shared), ways [] H s (fun _ _ _ => False) e s' → False) : PySem.W.WalkO q loose XP YP l.row.toRowW d [] (fun f vs => PySem.call f vs) := by
  refine Att.attach_callB hn nodf fun w s0 s1 mg mb fa o pm cd doc a vs ns G Y ho hd hcd at_ obj isn len _ gens => ?_
  obtain ⟨K, ts, fd, prom, kin, t1, t2, t3, bi, pr, FF⟩ := F w mg fa _ Y G.T.g at_
  exact law_gT kin G.T.g G.T.b G.T.builtins G.T.nolimit gens t1 t2 t3 G.T.bmain obj isn (Nat.le_trans len hn2) ro FF bi (fun H hH hS => pr H a ns len hH hS) fun H e s' => nox H s1 e s'
end L2
namespace Dn
open PySem L2

def excCB (K : PySem.W.Frag) (C : Addr) : Bool := decide (PySem.W.findIn K (.ref C) "__getattribute__" = some (some (.builtin "BaseException.__getattribute__"))) && (decide (PySem.W.findIn K (.ref C) "__getattr__" = some none) && (decide (PySem.W.subIn K (.ref C) (.type "BaseException") = some true)
  && (PySem.W.hasDictIn K C && (decide (PySem.W.findIn K (.ref C) "__class__" = some (some (.builtin "object.__class__"))) && (decide (PySem.W.specialIn K (.builtin "object.__class__") "__get__" = some (some (.builtin "getset_descriptor.__get__")))
  && (decide (PySem.W.takesIn K (.builtin "object.__class__") = some true) && decide (PySem.W.mroIn K C (.type "object") = some true)))))))
theorem excCB_ok {K : PySem.W.Frag} {C : Addr} (h : excCB K C = true) : ExcC K C := by
  unfold excCB at h
  simp only [Bool.and_eq_true, decide_eq_true_eq] at h
  obtain ⟨h1, h2, h3, h4, h5, h6, h7, h8⟩ := h
  exact ⟨h1, h2, h3, h4, h5, h6, h7, h8⟩
def oexB (K : PySem.W.Frag) (C : Addr) : Bool := (match K.lookup C with
  | some ⟨.type t, _, .cls cd, sl⟩ => (match cd.mro, sl.toList with
    | .ref C' :: bm, [_, _, _, _, some (.builtin n), _] => decide (t = "type") && (decide (C' = C) && (decide (n = "ValueError.__new__") && (!cd.hasDel && (cd.hasDict && PySem.HandSPX.refsVE bm))))
    | _, _ => false)
  | _ => false) && (decide (PySem.W.findIn K (.ref C) "__setattr__" = some (some (.builtin "object.__setattr__"))) && (decide (PySem.W.subIn K (.ref C) (.type "BaseException") = some true) && (decide (PySem.W.typeIn K (.ref C) = some (.type "type")) && PySem.W.keepIn K (.ref C))))
theorem oexB_ok {K : PySem.W.Frag} {C : Addr} (h : oexB K C = true) : OexC K C := by
  unfold oexB at h
  simp only [Bool.and_eq_true, decide_eq_true_eq] at h
  obtain ⟨h1, h2, h3, h4, h5⟩ := h
  refine ⟨?_, h2, h3, h4, h5⟩
  split at h1
  · rename_i t dd cd sl ho
    split at h1
    · rename_i C' bm k0 k1 k2 k3 n k5 hm hs
      simp only [Bool.and_eq_true, decide_eq_true_eq, Bool.not_eq_true'] at h1
      obtain ⟨rfl, rfl, rfl, hdel, hdct, ht⟩ := h1
      obtain ⟨nm, bs, mro, ns, qn, hd, sn, sub, ab, col, del⟩ := cd
      dsimp only at hm hdel hdct
      subst hm hdel hdct
      have hsl : sl = #[k0, k1, k2, k3, some (.builtin "ValueError.__new__"), k5] := by
        obtain ⟨l⟩ := sl
        simp only at hs
        rw [hs]
      subst hsl
      exact ⟨nm, qn, ns, bs, bm, sn, sub, ab, col, dd, k0, k1, k2, k3, k5, ho, ht⟩
    · cases h1
  · cases h1
def tmB (K : PySem.W.Frag) (C CT fI : Addr) : Bool := oexB K C && (decide (PySem.W.findIn K (.ref C) ("__init__" : Str) = some (some (.ref fI))) && (decide (PySem.W.findIn K (.ref C) ("many" : Str) = some none) && (decide (PySem.W.findIn K (.ref C) ("most" : Str) = some none)
  && (decide (PySem.W.typeIn K (.ref fI) = some (.type "function")) && (PySem.W.readsIn K CT (.type "type") && ((match PySem.W.findCls K (.ref CT) (.type "type") ("__init__" : Str) with
    | some (.val v) => decide (v = .builtin "ValueError.__init__")
    | _ => false) && decide (PySem.W.specialIn K (.ref CT) "__getattribute__" = some (some (.builtin "type.__getattribute__")))))))))
theorem tmB_ok {K : PySem.W.Frag} {C CT fI : Addr} (h : tmB K C CT fI = true) : OexC K C ∧ PySem.W.findIn K (.ref C) ("__init__" : Str) = some (some (.ref fI)) ∧ PySem.W.findIn K (.ref C) ("many" : Str) = some none ∧ PySem.W.findIn K (.ref C) ("most" : Str) = some none ∧
    PySem.W.typeIn K (.ref fI) = some (.type "function") ∧ PySem.W.readsIn K CT (.type "type") = true ∧ PySem.W.findCls K (.ref CT) (.type "type") ("__init__" : Str) = some (.val (.builtin "ValueError.__init__")) ∧ PySem.W.specialIn K (.ref CT) "__getattribute__" = some (some (.builtin "type.__getattribute__")) := by
  unfold tmB at h
  simp only [Bool.and_eq_true, decide_eq_true_eq] at h
  obtain ⟨h1, h2, h3, h4, h5, h6, h7, h8⟩ := h
  refine ⟨oexB_ok h1, h2, h3, h4, h5, h6, ?_, h8⟩
  split at h7
  · rename_i v e
    rw [e, of_decide_eq_true h7]
  · cases h7
def tabsB2 (g : Addr → Option Obj) (K : PySem.W.Frag) : Bool := (tabsK K).all fun t => match g t.2.1 with
  | some o => He.emptyTab o
  | none => false
theorem tabsB2_ok {g : Addr → Option Obj} {K : PySem.W.Frag} (h : tabsB2 g K = true) : ∀ t ∈ tabsK K, g t.2.1 = some { cls := .none, data := .fields #[] } := fun t ht => by
  have := List.all_eq_true.mp h t ht
  split at this
  · rename_i o e
    rw [e, He.emptyTab_eq this]
  · cases this
theorem tabs_in {K : PySem.W.Frag} {t : Addr × Addr × Str} (h : t ∈ tabsK K) : PySem.W.codeHdIn K t.1 t.2.1 = true ∧ K.lookup t.2.1 = none := by
  obtain ⟨p, _, e⟩ := List.mem_filterMap.mp h
  unfold tabK1 at e
  split at e
  · split at e
    · split at e
      · rename_i hc
        cases e
        simp only [Bool.and_eq_true, Option.isNone_iff_eq_none] at hc
        exact ⟨hc.2.1, hc.2.2⟩
      · cases e
    · cases e
  · cases e
end Dn


namespace Dn
open PySem L2
def xvB (K : PySem.W.Frag) (L : List (Nat × Addr)) (T tm : Addr) : Bool := L.all (fun p => excCB K p.2 && (L.all (fun q => decide (PySem.W.kitOne K (.ref p.2) (.ref q.2) = some (decide (p.1 = q.1)))) && (decide (PySem.W.kitOne K (.ref p.2) (.ref T) = some true) && decide (PySem.W.kitOne K (.ref p.2) (.type "ValueError") = some true)))) && xfB K tm
theorem xvB_ok {K : PySem.W.Frag} {mg : Str → Option Value} {cl : Nat → Addr} {L : List (Nat × Addr)} {T tm : Addr} {t m : Nat} (h : xvB K L T tm = true) (hc : ∀ p ∈ L, cl p.1 = p.2) (hT : cl t = T) (hm : cl m = tm)
    (two : m ∈ L.map (·.1) ∧ ∃ M : TmT K mg (cl m), KBn K M.fd [M.self, M.fa, M.fb] 1 [("most" : Str), ("many" : Str)] (fun us ws => pick [0, 2, 1] (us ++ ws ++ [])) (fun vs zs => pick [0, 2, 1] (vs ++ zs ++ []))) : XvT K mg cl (L.map (·.1)) t m := by
  unfold xvB at h
  simp only [Bool.and_eq_true, List.all_eq_true, decide_eq_true_eq] at h
  obtain ⟨h, hx⟩ := h
  have at_ : ∀ C ∈ L.map (·.1), ∃ p ∈ L, p.1 = C ∧ cl C = p.2 := fun C hC => by
    obtain ⟨p, hp, rfl⟩ := List.mem_map.mp hC
    exact ⟨p, hp, rfl, hc p hp⟩
  refine ⟨fun C hC => ?_, fun C hC D hD => ?_, fun C hC => ?_, fun C hC => ?_, two, ?_⟩
  · obtain ⟨p, hp, _, e⟩ := at_ C hC
    rw [e]; exact excCB_ok (h p hp).1
  · obtain ⟨p, hp, e1, e⟩ := at_ C hC
    obtain ⟨q, hq, e2, e'⟩ := at_ D hD
    rw [e, e', ← e1, ← e2]
    exact (h p hp).2.1 q hq
  · obtain ⟨p, hp, _, e⟩ := at_ C hC
    rw [e, hT]; exact (h p hp).2.2.1
  · obtain ⟨p, hp, _, e⟩ := at_ C hC
    rw [e]; exact (h p hp).2.2.2
  · rw [hm]; exact xfB_ok hx
end Dn


namespace L2
open PySem PySem.Spec PyProof.Rows
open Dn (kindsX)
section
variable {X : Cx} {pins : List (Addr × Obj)} {σ : St} {H : Hp} {s : Shared}
end
section
variable {prog : Program} {w : World} {A : Around} {E : Value → Shared → Prop} {s : Shared} {K : PySem.W.Frag} {x C f : Addr} {ox : Obj} {od : Option Obj}
end
section
variable {X : Cx} {ways : CXT} {lv : Nat} {fa C : Addr} {fd : FuncData} {names : List Str} {prom : Sp} {x : XK}
end
end L2


namespace L2
open PySem PySem.Spec PyProof.Rows PySem.SeqAt PySem.MeetsSeq GQ
section
variable {prog : Program} {w : World} {A : Around} {R : Result → Shared → Prop} {s : Shared} {l : Addr} {x : Value} {items : Array Value} {n : Nat}
end
section
variable {prog : Program} {w : World} {A : Around} {E : Value → Shared → Prop} {s : Shared} {l : Addr} {x y : Value} {n : Nat}
end
section
variable {X : Cx} {ways : CXT} {lv : Nat} {fa C : Addr} {fd : FuncData} {names : List Str} {prom : Sp} {x : XK}
end
end L2


namespace Dn
open PySem L2
namespace D
end D
section
variable {Γ : Pg} {n : Nat} {c fa : Nat → Addr} {G : Fr} {N : List Str} {sc : Scope} {X : Cx} {κ : Cn} {cs : CS}
variable {a b e : Expr} {da db : DE} {pos p q : Pos}
end
end Dn


namespace Dn
open PySem L2
section
variable {Γ : Pg} {n : Nat} {c fa : Nat → Addr} {G : Fr} {N : List Str} {sc scope : Scope} {X : Cx} {κ : Cn} {cs : CS}
variable {iter elt : Expr} {de : DE} {pos px : Pos} {x : Str} {i : Nat}
end
end Dn


namespace ID
open PySem L2
def Lk (P : Program) (w : World) (K : PySem.W.Frag) (d : Addr) (o : Obj) (u : HO) (ps : List (V × V)) : Prop :=
  ∀ (X : Cx), X.prog = P → X.w = w → X.K = K → ∀ pins σ H s, Inv X pins σ H s → H d = some (.frz o u) →
    (d == sysModules) = false ∧ s.heap.get? d = some o ∧ o.ExactDict ∧ ∃ ee ep, o.data = .dict ee ep ∧ ee.size = ps.length ∧ ∀ (i : Nat) (p : V × V), ps[i]? = some p → ∃ e, ee[i]? = some e ∧ RelV p.1 e.key ∧ RelV p.2 e.val
def ItI (d : Addr) (o : Obj) (u : HO) (ps : List (V × V)) : It :=
  ⟨fun i H => H d = some (.frz o u) ∧ i < ps.length, fun i H x H' => ∃ T ob p, ps[i]? = some p ∧ x = .ref T ∧ H T = none ∧ ob.dict = none ∧ H' = upd H T (.frz ob (.tup [p.1, p.2])), fun i H => H d = some (.frz o u) ∧ ps.length ≤ i⟩
def ItV (d : Addr) (o : Obj) (u : HO) (ps : List (V × V)) : It :=
  ⟨fun i H => H d = some (.frz o u) ∧ i < ps.length, fun i H x H' => H' = H ∧ ∃ p, ps[i]? = some p ∧ x = p.2, fun i H => H d = some (.frz o u) ∧ ps.length ≤ i⟩
section
variable {P : Program} {w : World} {K : PySem.W.Frag} {tg : Expr} {d : Addr} {o : Obj} {u : HO} {ps : List (V × V)} {ee : Array DictEntry} {ep : Nat}
theorem turn_it {elts : List Expr} {kk : Nat} {tpos : Pos} (it : Addr) (lk : Lk P w K d o u ps) (hod : o.data = .dict ee ep) :
    Turn P w K (.Tuple elts kk tpos) (ItI d o u ps) [it] it (fun i h => ∃ ok ov, IsItemIter h it d i ee.size ep ok ov) where
  mem := by simp
  obj := fun i h st b hb => by
    have e : b = it := by simpa using hb
    subst e
    obtain ⟨ok, ov, e⟩ := st
    exact ⟨_, e, fun v z => nomatch z⟩
  keep := fun i h h' st k => let ⟨ok, ov, e⟩ := st; ⟨ok, ov, k it (by simp) _ e⟩
  item := by
    intro X hP hw hK hc i pins s σ H E I hf st hg
    obtain ⟨hd, hi⟩ := hg
    obtain ⟨hs, hgd, hx, ee', ep', hdt, hsz, hen⟩ := lk X hP hw hK _ _ _ _ I hd
    subst hP hw hK
    obtain ⟨rfl, rfl⟩ := dict_ep hod hdt
    obtain ⟨e, he, r1, r2⟩ := hen i ps[i] (List.getElem?_eq_getElem hi)
    obtain ⟨hi2, he2⟩ := Array.getElem?_eq_some_iff.mp he
    obtain ⟨ok, ov, hit⟩ := st
    have hlt : it < s.heap.objs.size := Heap.lt_size hit
    refine wpAny_pyNext_items_item_raw hit ⟨o, hgd, hx, hdt⟩ hi2 fun h' hit' hT hz hk => ?_
    rw [he2] at hit' hT
    refine ⟨_, rfl, wpAny_letOwnedTupleGo_items (s := { s with heap := h' }) hit' fun h'' he' sb => ?_⟩
    have hT2 : h''.get? s.heap.objs.size = some { cls := .type "tuple", data := .seq #[e.key, e.val] } := (sb.2 _ (Nat.ne_of_gt hlt)).trans hT
    have new : ObjOk X.prog X.w (upd H s.heap.objs.size (.frz { cls := .type "tuple", data := .seq #[e.key, e.val] } (.tup [ps[i].1, ps[i].2]))) h'' s.heap.objs.size (.frz { cls := .type "tuple", data := .seq #[e.key, e.val] } (.tup [ps[i].1, ps[i].2])) :=
      ⟨hT2, by show 2 ≤ sizeLine; decide, [e.key, e.val], .cons r1 (.cons r2 .nil), ⟨_, hT2, rfl, _, rfl⟩⟩
    have I1 : Inv X pins σ (upd H s.heap.objs.size (.frz { cls := .type "tuple", data := .seq #[e.key, e.val] } (.tup [ps[i].1, ps[i].2]))) { s with heap := h'' } :=
      I.turnedNew (t' := s.toks) (ch := [it]) (fun b ob hb e => (sb.2 b (by simpa using hb)).trans (hk b ob (by simpa using hb) e)) hf (Nat.le_refl _) new
    refine ⟨.ref s.heap.objs.size, _, I1, rfl, ⟨_, _, ps[i], List.getElem?_eq_getElem hi, rfl, I.hok.fresh (Nat.le_refl _), rfl, rfl⟩, ⟨e.key, e.val, he'⟩, fun b hb => ?_⟩
    have e : b = it := by simpa using hb
    rw [e, upd_ne (Nat.ne_of_lt hlt)]
    exact (hf it (by simp)).1
  done := by
    intro X hP hw hK hc i pins s σ H E I hf st hg
    obtain ⟨hd, hi⟩ := hg
    obtain ⟨hs, hgd, hx, ee', ep', hdt, hsz, hen⟩ := lk X hP hw hK _ _ _ _ I hd
    subst hP hw hK
    obtain ⟨f0, f1, f2, f3, f4, f5⟩ := hf it (by simp)
    obtain ⟨rfl, rfl⟩ := dict_ep hod hdt
    obtain ⟨ok, ov, he⟩ := st
    exact wpAny_pyNext_items_end_raw (I.ok.hd hc) he ⟨o, hgd, hx, hdt⟩ (by omega) fun h' eb => ⟨rfl, I.turned (t' := s.toks) (fun b ob hb e => eb b ob hb e) f0 f1 f3 f4 f5⟩
  self := fun A i s Q E st h => let ⟨_, _, e⟩ := st; PySem.W.kcp_self e h
theorem turn_vl (it : Addr) (lk : Lk P w K d o u ps) (hod : o.data = .dict ee ep) :
    Turn P w K tg (ItV d o u ps) [it] it (fun i h => h.IsValIter it d i ee.size ep) where
  mem := by simp
  obj := fun i h st b hb => by
    have e : b = it := by simpa using hb
    subst e
    obtain ⟨oi, e, c, dd⟩ := st
    exact ⟨oi, e, fun v z => by rw [dd] at z; cases z⟩
  keep := fun i h h' st k => st.at fun oi e => k it (by simp) oi e
  item := by
    intro X hP hw hK hc i pins s σ H E I hf st hg
    obtain ⟨hd, hi⟩ := hg
    obtain ⟨hs, hgd, hx, ee', ep', hdt, hsz, hen⟩ := lk X hP hw hK _ _ _ _ I hd
    subst hP hw hK
    obtain ⟨f0, f1, f2, f3, f4, f5⟩ := hf it (by simp)
    obtain ⟨rfl, rfl⟩ := dict_ep hod hdt
    obtain ⟨e, he, r1, r2⟩ := hen i ps[i] (List.getElem?_eq_getElem hi)
    obtain ⟨hi2, he2⟩ := Array.getElem?_eq_some_iff.mp he
    refine wpAny_pyNext_values_item_raw st ⟨o, hgd, hx, hdt⟩ hi2 fun h' hit' hs' => ?_
    rw [he2]
    obtain ⟨oi, e1, e2, e3⟩ := hit'
    refine ⟨_, rfl, go_of (s := { s with heap := h' }) e1 e2 e3 (by decide) ?_⟩
    exact ⟨ps[i].2, H, I.turned (t' := s.toks) (fun b ob hb e => hs'.extBut b ob hb e) f0 f1 f3 f4 f5, r2, ⟨rfl, _, List.getElem?_eq_getElem hi, rfl⟩, ⟨oi, e1, e2, e3⟩, fun b hb => by
      have e : b = it := by simpa using hb
      rw [e]; exact f0⟩
  done := by
    intro X hP hw hK hc i pins s σ H E I hf st hg
    obtain ⟨hd, hi⟩ := hg
    obtain ⟨hs, hgd, hx, ee', ep', hdt, hsz, hen⟩ := lk X hP hw hK _ _ _ _ I hd
    subst hP hw hK
    obtain ⟨f0, f1, f2, f3, f4, f5⟩ := hf it (by simp)
    obtain ⟨rfl, rfl⟩ := dict_ep hod hdt
    exact wpAny_pyNext_values_end_raw (I.ok.hd hc) st ⟨o, hgd, hx, hdt⟩ (by omega) fun h' eb => ⟨rfl, I.turned (t' := s.toks) (fun b ob hb e => eb b ob hb e) f0 f1 f3 f4 f5⟩
  self := fun A i s Q E st h => wpAny_pyIter_valiter st h
end
def iIt (P : Program) (w : World) (K : PySem.W.Frag) (J : Addr → Obj → HO → List (V × V) → It) (td : TE) : TI := fun σ H R => td σ H fun x H1 => ∃ d u ps, x = .ref d ∧ (∀ o, Lk P w K d o u ps) ∧ ((H1 d = some u ∧ Mut (some u) ∧ ∀ o, R (J d o u ps) (upd H1 d (.frz o u))) ∨ ∃ o, H1 d = some (.frz o u) ∧ R (J d o u ps) H1)
section
variable {X : Cx} {tg e : Expr} {td : TE} {apos cpos : Pos}
theorem pi_it {elts : List Expr} {kk : Nat} {tpos : Pos} (he : PE X e td) (hbase : attributeBase e "items" X.env (eval e X.env) = eval e X.env := by rfl) (hline : (apos.endLine == cpos.line) = true := by rfl) :
    PI X (.Tuple elts kk tpos) (.Call (.Attribute e "items" apos) [] [] cpos) (iIt X.prog X.w X.K ItI td) := by
  refine ⟨fun pins s σ H R I h => ?_⟩
  refine wpAny_Call_method (T := "dict") (id := "dict.items") hbase rfl hline F.plainAttrs_dict F.slot_dict_items F.type_dict_items (thn (he.run pins s σ H _ I h) fun v s1 ⟨x, H1, I1, rx, d, u, ps, ex, lk, q⟩ => ?_)
  subst ex
  obtain rfl : v = Value.ref d := rx
  have main : ∀ (o : Obj) (H2 : Hp), Inv X pins σ H2 s1 → H2 d = some (.frz o u) → R (ItI d o u ps) H2 → s1.TypeIs (.ref d) "dict" ∧ (∀ a, Value.ref d = .ref a → ∃ o, s1.heap.get? a = some o ∧ o.dict = none) ∧ wpAny (model X.prog X.w) X.A (callWith cpos (.builtin "dict.items") [.ref d] [] []) (fun v s2 => wpAny (model X.prog X.w) X.A (pyIter v) (PIE X pins σ (.Tuple elts kk tpos) R) X.xe s2) X.xe s1 := by
    intro o H2 I2 hd q
    obtain ⟨hs, hgd, hx, ee, ep, hdt, hsz, hen⟩ := lk o X rfl rfl rfl _ _ _ _ I2 hd
    have raw : s1.heap.DictRaw d ee ep := ⟨o, hgd, hx, hdt⟩
    refine ⟨raw.typeIs, fun a ha => by cases ha; exact ⟨o, hgd, hx.2.1⟩, ?_⟩
    have I3 : Inv X pins σ H2 { s1 with heap := s1.heap.push { cls := .type "dict_items", data := .fields #[.ref d] } } := I2.kept (t' := s1.toks) fun b ob q => Heap.get?_push_of_some _ q
    have fin : wpAny (model X.prog X.w) X.A (pyIter (.ref s1.heap.objs.size)) (PIE X pins σ (.Tuple elts kk tpos) R) X.xe { s1 with heap := s1.heap.push { cls := .type "dict_items", data := .fields #[.ref d] } } := by
      refine wpAny_pyIter_items_raw (d := d) ⟨_, Heap.get?_push_size _ rfl, rfl, rfl⟩ (raw.at fun o e => Heap.get?_push_of_some _ e) (pi_one (tk := s1.toks) I3 _ (turn_it _ (lk o) hdt) ⟨.none, .none, ?_⟩ q)
      exact Heap.get?_push_size _ rfl
    exact method_meetsIn F.slot_dict_items F.entry_dict_items rfl (PySem.evalArgs_none ⟨rfl, raw.typeIs, F.args_dict_items_1 _, _, meets_dict_items_raw d hs, ⟨_, _, raw⟩, fin⟩)
  rcases q with ⟨hd, mu, q⟩ | ⟨o, hd, q⟩
  · obtain ⟨od, I2⟩ := I1.lock hd mu
    exact main od _ I2 upd_same (q od)
  · exact main o _ I1 hd q
theorem pi_vl (he : PE X e td) (hbase : attributeBase e "values" X.env (eval e X.env) = eval e X.env := by rfl) (hline : (apos.endLine == cpos.line) = true := by rfl) :
    PI X tg (.Call (.Attribute e "values" apos) [] [] cpos) (iIt X.prog X.w X.K ItV td) := by
  refine ⟨fun pins s σ H R I h => ?_⟩
  refine wpAny_Call_method (T := "dict") (id := "dict.values") hbase rfl hline F.plainAttrs_dict F.slot_dict_values F.type_dict_values (thn (he.run pins s σ H _ I h) fun v s1 ⟨x, H1, I1, rx, d, u, ps, ex, lk, q⟩ => ?_)
  subst ex
  obtain rfl : v = Value.ref d := rx
  have main : ∀ (o : Obj) (H2 : Hp), Inv X pins σ H2 s1 → H2 d = some (.frz o u) → R (ItV d o u ps) H2 → s1.TypeIs (.ref d) "dict" ∧ (∀ a, Value.ref d = .ref a → ∃ o, s1.heap.get? a = some o ∧ o.dict = none) ∧ wpAny (model X.prog X.w) X.A (callWith cpos (.builtin "dict.values") [.ref d] [] []) (fun v s2 => wpAny (model X.prog X.w) X.A (pyIter v) (PIE X pins σ tg R) X.xe s2) X.xe s1 := by
    intro o H2 I2 hd q
    obtain ⟨hs, hgd, hx, ee, ep, hdt, hsz, hen⟩ := lk o X rfl rfl rfl _ _ _ _ I2 hd
    have raw : s1.heap.DictRaw d ee ep := ⟨o, hgd, hx, hdt⟩
    refine ⟨raw.typeIs, fun a ha => by cases ha; exact ⟨o, hgd, hx.2.1⟩, ?_⟩
    have I3 : Inv X pins σ H2 { s1 with heap := s1.heap.push { cls := .type "dict_values", data := .fields #[.ref d] } } := I2.kept (t' := s1.toks) fun b ob q => Heap.get?_push_of_some _ q
    have fin : wpAny (model X.prog X.w) X.A (pyIter (.ref s1.heap.objs.size)) (PIE X pins σ tg R) X.xe { s1 with heap := s1.heap.push { cls := .type "dict_values", data := .fields #[.ref d] } } := by
      refine wpAny_pyIter_values_raw (d := d) ⟨_, Heap.get?_push_size _ rfl, rfl, rfl⟩ (raw.at fun o e => Heap.get?_push_of_some _ e) (pi_one (tk := s1.toks) I3 _ (turn_vl _ (lk o) hdt) ?_ q)
      exact ⟨_, Heap.get?_push_size _ rfl, rfl, rfl⟩
    exact method_meetsIn F.slot_dict_values F.entry_dict_values rfl (PySem.evalArgs_none ⟨rfl, raw.typeIs, F.args_dict_values_1 _, _, meets_dict_values_raw d hs, ⟨_, _, raw⟩, fin⟩)
  rcases q with ⟨hd, mu, q⟩ | ⟨o, hd, q⟩
  · obtain ⟨od, I2⟩ := I1.lock hd mu
    exact main od _ I2 upd_same (q od)
  · exact main o _ I1 hd q
end
end ID


namespace Dn
open PySem L2
open PySem.W (alike alikeAll dataLt dataLe EachIs AllAlike Sortable SortsAt copyHeap sortingHeap copyHeap_at sorting_copy_old list_sort_vals sortVals sortVals_data sortVals_length each_map bound_map sort_maps sortingHeap_old)
open PyProof.Rows (sortedHeap sortedHeap_at sortedHeap_old seqObj size_push' kind_sorted plain_sorted entry_sorted args_sorted1 args_list_sort slot_list_sort entry_list_sort)
section
variable {prog : Program} {w : World} {A : Around} {E : Value → Shared → Prop} {s : Shared}
end
namespace O
end O
section
variable {Γ : Pg} {n : Nat} {c fa : Nat → Addr} {G : Fr} {N : List Str} {sc : Scope} {X : Cx} {κ : Cn} {cs : CS}
variable {a b e d : Expr} {da db dd : DE} {pos p : Pos} {es : List Expr} {ds : DEs}
end
end Dn


namespace Dn
open PySem L2
namespace D
def pairP (p : PV × PV) : PV := .tup [p.1, p.2]
def items (e : DE) : DI := fun c σ st => (e c σ st).bind fun x st => match x with
  | .ref n => (match st[n]? with
    | some (.dic t kvs) => .ok (kvs.map pairP, none) (st.set n (.frd t kvs))
    | some (.frd t kvs) => .ok (kvs.map pairP, none) st
    | _ => .bad)
  | _ => .bad
def values (e : DE) : DI := fun c σ st => (e c σ st).bind fun x st => match x with
  | .ref n => (match st[n]? with
    | some (.dic t kvs) => .ok (kvs.map (·.2), none) (st.set n (.frd t kvs))
    | some (.frd t kvs) => .ok (kvs.map (·.2), none) st
    | _ => .bad)
  | _ => .bad
end D
section
variable {Γ : Pg} {n : Nat} {c fa : Nat → Addr} {G : Fr} {N : List Str} {sc : Scope} {X : Cx} {κ : Cn} {cs : CS}
variable {a b e d : Expr} {da db dd : DE} {pos p : Pos} {es : List Expr} {ds : DEs}
theorem pairs_at {P : Program} {w : World} {K : Type} [DecidableEq K] {knd : KeyKind P w K} : ∀ {l : List DictEntry} {vs : List (K × Value)}, Pairs knd l vs → ∀ {i : Nat} {k : K} {u : Value}, vs[i]? = some (k, u) → ∃ e, l[i]? = some e ∧ knd.is k e.key = true ∧ e.val = u
  | _, _, .nil, i, k, u, h => by simp at h
  | _, _, .cons h1 h2 h3, 0, k, u, h => by
    simp only [List.getElem?_cons_zero, Option.some.injEq] at h
    cases h
    exact ⟨_, rfl, h1, h2⟩
  | _, _, .cons h1 h2 h3, i + 1, k, u, h => by
    simp only [List.getElem?_cons_succ] at h ⊢
    exact pairs_at h3 h
theorem lk_dK {P : Program} {w : World} {K : PySem.W.Frag} {d : Addr} {o : Obj} {es : List (Key × V)} : ID.Lk P w K d o (.dK es) (es.map fun e => (kV e.1, e.2)) := by
  intro X hP hw hK pins σ H s I h
  obtain ⟨hs, hd, hx, _⟩ := I.frzK h
  obtain ⟨_, _, vs, kv, o', ee, ep, ho, _, hdt, _, hp, _⟩ := L2.dk_rd I.hok (.inr ⟨o, h⟩)
  rw [hd] at ho
  cases ho
  have l1 : es.length = vs.length := Paired.length kv
  have l2 := hp.length
  rw [Array.length_toList] at l2
  refine ⟨hs, hd, hx, ee, ep, hdt, by rw [List.length_map]; omega, fun i p hi => ?_⟩
  rw [List.getElem?_map] at hi
  obtain ⟨⟨k, v⟩, e1, rfl⟩ := Option.map_eq_some_iff.mp hi
  obtain ⟨u, e2, ru⟩ := kv_get kv e1
  obtain ⟨e, e3, e4, e5⟩ := pairs_at hp e2
  rw [Array.getElem?_toList] at e3
  exact ⟨e, e3, relV_key (show keyIs k e.key = true from e4), by rw [e5]; exact ru⟩
theorem lk_dT {P : Program} {w : World} {K : PySem.W.Frag} {d : Addr} {o : Obj} {κ : Cn} {es : List E3} : ID.Lk P w K d o (dTO κ d es) (es.map fun e => (V.ref e.2.1, e.2.2)) := by
  intro X hP hw hK pins σ H s I h
  obtain ⟨hd, q⟩ := I.hok d _ h
  obtain ⟨lo, hz, _, ys, pr, o', ee, ep, ho, hx, hdt, he, nd⟩ := (q : dPhi κ d es s.heap ∧ _).1
  rw [hd] at ho
  cases ho
  have l1 := size_of_entries he
  have l2 : es.length = ys.length := Paired.length pr
  refine ⟨lo, hd, hx, ee, ep, hdt, by rw [List.length_map]; omega, fun i p hi => ?_⟩
  rw [List.getElem?_map] at hi
  obtain ⟨⟨k, b, v⟩, e1, rfl⟩ := Option.map_eq_some_iff.mp hi
  obtain ⟨y, e2, q1, q2, q3⟩ := paired_get pr e1
  have e3 := entry_at he i
  rw [e2] at e3
  exact ⟨_, e3, by rw [q2]; rfl, q3⟩
theorem yld_items {B : Addr → Prop} {ρ0 : List Addr} {H0 : Hp} {d : Addr} {o : Obj} {u : HO} {ps : List (V × V)} {kvs : List (PV × PV)} (h : H0 d = some (.frz o u)) (r : RVs κ (Fo B ρ0) ρ0 H0 (kvs.map (·.1)) (ps.map (·.1))) (r' : RVs κ (Fo B ρ0) ρ0 H0 (kvs.map (·.2)) (ps.map (·.2))) :
    Yld κ B (ID.ItI d o u ps) (kvs.map D.pairP) none ρ0 H0 where
  go := fun B' i ρ st H hB e A _ hi => by
    rw [List.length_map] at hi
    have hl := r.length
    simp only [List.length_map] at hl
    have hi2 : i < ps.length := by omega
    refine ⟨⟨e.frz _ _ _ h, hi2⟩, fun x H' ⟨T, ob, p, ep, ex, hT, od, eH⟩ => ?_⟩
    subst ex; subst eH
    obtain ⟨x, ex, rx⟩ := (r.mono (e.mono' hB)).get (i := i) (x := kvs[i].1) (by simp [hi])
    obtain ⟨y, ey, ry⟩ := (r'.mono (e.mono' hB)).get (i := i) (x := kvs[i].2) (by simp [hi])
    rw [List.getElem?_map, ep] at ex ey
    simp only [Option.map_some, Option.some.injEq] at ex ey
    subst ex; subst ey
    have e2 : Ext ρ H ρ (upd H T (.frz ob (.tup [p.1, p.2]))) := ext_new hT
    refine ⟨e2, A.new hT, D.pairP kvs[i], by simp [hi], ?_⟩
    unfold D.pairP
    simp only [RV]
    exact ⟨T, _, rfl, .inl ⟨ob, od, upd_same⟩, RVs.cons (rx.mono e2.mono) (RVs.cons (ry.mono e2.mono) RVs.nil)⟩
  stop := fun B' i ρ st H hB e A _ hi => by
    have hl := r.length
    simp only [List.length_map] at hl hi
    exact ⟨e.frz _ _ _ h, by omega⟩
theorem yld_values {B : Addr → Prop} {ρ0 : List Addr} {H0 : Hp} {d : Addr} {o : Obj} {u : HO} {ps : List (V × V)} {kvs : List (PV × PV)} (h : H0 d = some (.frz o u)) (r' : RVs κ (Fo B ρ0) ρ0 H0 (kvs.map (·.2)) (ps.map (·.2))) :
    Yld κ B (ID.ItV d o u ps) (kvs.map (·.2)) none ρ0 H0 where
  go := fun B' i ρ st H hB e A _ hi => by
    rw [List.length_map] at hi
    have hl := r'.length
    simp only [List.length_map] at hl
    have hi2 : i < ps.length := by omega
    refine ⟨⟨e.frz _ _ _ h, hi2⟩, fun x H' ⟨eH, p, ep, ex⟩ => ?_⟩
    subst ex; subst eH
    obtain ⟨y, ey, ry⟩ := (r'.mono (e.mono' hB)).get (i := i) (x := kvs[i].2) (by simp [hi])
    rw [List.getElem?_map, ep] at ey
    simp only [Option.map_some, Option.some.injEq] at ey
    subst ey
    exact ⟨Ext.refl, A, kvs[i].2, by simp [hi], ry⟩
  stop := fun B' i ρ st H hB e A _ hi => by
    have hl := r'.length
    simp only [List.length_map] at hl hi
    exact ⟨e.frz _ _ _ h, by omega⟩
theorem rks_two {F : Addr → Prop} {ρ : List Addr} {H : Hp} : ∀ {kvs : List (PV × PV)} {es : List (Key × V)}, RKs κ F ρ H kvs es → RVs κ F ρ H (kvs.map (·.1)) ((es.map fun e => (kV e.1, e.2)).map (·.1)) ∧ RVs κ F ρ H (kvs.map (·.2)) ((es.map fun e => (kV e.1, e.2)).map (·.2))
  | [], es, h => by
    simp only [RKs] at h
    subst h
    exact ⟨RVs.nil, RVs.nil⟩
  | (k, v) :: r, es, h => by
    simp only [RKs] at h
    obtain ⟨kk, w, r', rfl, h1, h2, h3⟩ := h
    refine ⟨RVs.cons ?_ (rks_two h3).1, RVs.cons h2 (rks_two h3).2⟩
    cases k <;> simp only [toKey, Option.some.injEq, reduceCtorEq] at h1 <;> (subst h1; simp only [RV, kV])
theorem rts_two {F : Addr → Prop} {ρ : List Addr} {H : Hp} : ∀ {kvs : List (PV × PV)} {es : List E3}, RTs κ F ρ H kvs es → RVs κ F ρ H (kvs.map (·.1)) ((es.map fun e => (V.ref e.2.1, e.2.2)).map (·.1)) ∧ RVs κ F ρ H (kvs.map (·.2)) ((es.map fun e => (V.ref e.2.1, e.2.2)).map (·.2))
  | [], es, h => by
    simp only [RTs] at h
    subst h
    exact ⟨RVs.nil, RVs.nil⟩
  | (k, v) :: r, es, h => by
    simp only [RTs] at h
    obtain ⟨kk, a, w, r', rfl, h1, h2, h3, h4⟩ := h
    exact ⟨RVs.cons h2 (rts_two h4).1, RVs.cons h3 (rts_two h4).2⟩
theorem sealIt {ρ : List Addr} {st : Store} {H : Hp} {m : Nat} {d : Addr} {t : Bool} {kvs : List (PV × PV)} (A : At κ G ρ st H) (h1 : ρ[m]? = some d) (em : st[m]? = some (.dic t kvs)) :
    ∃ u ps, (∀ (P : Program) (w : World) (K : PySem.W.Frag) o, ID.Lk P w K d o u ps) ∧ H d = some u ∧ Mut (some u) ∧ ∀ o, Ext ρ H ρ (upd H d (.frz o u)) ∧ At κ G ρ (st.set m (.frd t kvs)) (upd H d (.frz o u)) ∧
      RVs κ (Fo G.B ρ) ρ (upd H d (.frz o u)) (kvs.map (·.1)) (ps.map (·.1)) ∧ RVs κ (Fo G.B ρ) ρ (upd H d (.frz o u)) (kvs.map (·.2)) (ps.map (·.2)) := by
  have q := A.wd.ob m _ d em h1
  cases t with
  | false =>
    obtain ⟨es, h2, h3⟩ := q
    refine ⟨.dK es, es.map fun e => (kV e.1, e.2), fun P w K o => lk_dK, h2, trivial, fun o => ?_⟩
    have nt : ∀ xs, H d ≠ some (.tup xs) := fun xs => by rw [h2]; simp
    have nf : ∀ o u, H d ≠ some (.frz o u) := fun o u => by rw [h2]; simp
    have e := ext_put A.wd (o := .frz o (.dK es)) h1 nt nf
    exact ⟨e, A.step e (A.wd.put h1 nt nf ⟨o, es, upd_same, h3.mono e.mono⟩), (rks_two (h3.mono e.mono)).1, (rks_two (h3.mono e.mono)).2⟩
  | true =>
    obtain ⟨es, h2, h3⟩ := q
    refine ⟨dTO κ d es, es.map fun e => (V.ref e.2.1, e.2.2), fun P w K o => lk_dT, h2, trivial, fun o => ?_⟩
    have nt : ∀ xs, H d ≠ some (.tup xs) := fun xs => by rw [h2]; simp
    have nf : ∀ o u, H d ≠ some (.frz o u) := fun o u => by rw [h2]; simp
    have e := ext_put A.wd (o := .frz o (dTO κ d es)) h1 nt nf
    exact ⟨e, A.step e (A.wd.put h1 nt nf ⟨o, es, upd_same, h3.mono e.mono⟩), (rts_two (h3.mono e.mono)).1, (rts_two (h3.mono e.mono)).2⟩
theorem sealedIt {ρ : List Addr} {st : Store} {H : Hp} {m : Nat} {d : Addr} {t : Bool} {kvs : List (PV × PV)} (A : At κ G ρ st H) (h1 : ρ[m]? = some d) (em : st[m]? = some (.frd t kvs)) :
    ∃ u ps, (∀ (P : Program) (w : World) (K : PySem.W.Frag) o, ID.Lk P w K d o u ps) ∧ ∃ o, H d = some (.frz o u) ∧
      RVs κ (Fo G.B ρ) ρ H (kvs.map (·.1)) (ps.map (·.1)) ∧ RVs κ (Fo G.B ρ) ρ H (kvs.map (·.2)) (ps.map (·.2)) := by
  have q := A.wd.ob m _ d em h1
  cases t with
  | false =>
    obtain ⟨o, es, h2, h3⟩ := q
    exact ⟨.dK es, es.map fun e => (kV e.1, e.2), fun P w K o => lk_dK, o, h2, rks_two h3⟩
  | true =>
    obtain ⟨o, es, h2, h3⟩ := q
    exact ⟨dTO κ d es, es.map fun e => (V.ref e.2.1, e.2.2), fun P w K o => lk_dT, o, h2, rts_two h3⟩
theorem SI.items {elts : List Expr} {kk : Nat} {tpos apos : Pos} (ha : SE Γ N sc a da) (hb : ∀ env, attributeBase a "items" env (eval a env) = eval a env := by intro _; rfl) (hl : (apos.endLine == pos.line) = true := by rfl) :
    SI Γ N sc (.Tuple elts kk tpos) (.Call (.Attribute a ("items" : Str) apos) [] [] pos) (D.items da) := fun n c fa G X g => by
  refine PI_imp (ID.pi_it (ha n c fa G X g) (hb _) hl) ?_
  rintro σ H R ⟨ρ, st, σp, A, Rn, o⟩
  refine tE_bind A Rn o fun v st1 ρ1 H1 u e1 A1 R1 ru o1 => ?_
  split at o1
  · rename_i m
    simp only [RV] at ru
    obtain ⟨d, rfl, h1⟩ := ru
    split at o1
    · rename_i t kvs em
      obtain ⟨u, ps, lk, h2, mu, k⟩ := sealIt A1 h1 em
      refine ⟨d, u, ps, rfl, lk _ _ _, .inl ⟨h2, mu, fun o => ?_⟩⟩
      obtain ⟨e3, A3, r1, r2⟩ := k o
      exact o1 ρ1 _ e3 A3 _ (yld_items upd_same r1 r2)
    · rename_i t kvs em
      obtain ⟨u, ps, lk, o, h2, r1, r2⟩ := sealedIt A1 h1 em
      exact ⟨d, u, ps, rfl, lk _ _ _, .inr ⟨o, h2, o1.ret A1 _ (yld_items h2 r1 r2)⟩⟩
    · exact o1.elim
  · exact o1.elim
theorem SI.values {tg : Expr} {apos : Pos} (ha : SE Γ N sc a da) (hb : ∀ env, attributeBase a "values" env (eval a env) = eval a env := by intro _; rfl) (hl : (apos.endLine == pos.line) = true := by rfl) :
    SI Γ N sc tg (.Call (.Attribute a ("values" : Str) apos) [] [] pos) (D.values da) := fun n c fa G X g => by
  refine PI_imp (ID.pi_vl (ha n c fa G X g) (hb _) hl) ?_
  rintro σ H R ⟨ρ, st, σp, A, Rn, o⟩
  refine tE_bind A Rn o fun v st1 ρ1 H1 u e1 A1 R1 ru o1 => ?_
  split at o1
  · rename_i m
    simp only [RV] at ru
    obtain ⟨d, rfl, h1⟩ := ru
    split at o1
    · rename_i t kvs em
      obtain ⟨u, ps, lk, h2, mu, k⟩ := sealIt A1 h1 em
      refine ⟨d, u, ps, rfl, lk _ _ _, .inl ⟨h2, mu, fun o => ?_⟩⟩
      obtain ⟨e3, A3, r1, r2⟩ := k o
      exact o1 ρ1 _ e3 A3 _ (yld_values upd_same r2)
    · rename_i t kvs em
      obtain ⟨u, ps, lk, o, h2, r1, r2⟩ := sealedIt A1 h1 em
      exact ⟨d, u, ps, rfl, lk _ _ _, .inr ⟨o, h2, o1.ret A1 _ (yld_values h2 r2)⟩⟩
    · exact o1.elim
  · exact o1.elim
end
end Dn


namespace ID
open PySem L2 Dn
section
variable {X : Cx} {e : Expr} {te : TE} {p apos cpos pos : Pos}
end
end ID


namespace ID
open PySem L2 Dn
section
variable {X : Cx} {e : Expr} {te : TE} {p apos cpos pos : Pos}
end
end ID
namespace Dn
open PySem L2
namespace D
end D
section
variable {Γ : Pg} {n : Nat} {c fa : Nat → Addr} {G : Fr} {N : List Str} {sc : Scope} {X : Cx} {κ : Cn} {cs : CS}
variable {a b e d : Expr} {da db dd : DE} {pos pos2 p q : Pos} {es : List Expr} {ds : DEs}
end
end Dn


namespace Dn
open PySem L2
def greatest (x : Int) : List Int → Int
  | [] => x
  | y :: r => greatest (if x < y then y else x) r
namespace O
end O
theorem intsP_eq : ∀ {xs : List PV} {is : List Int}, O.intsP xs = some is → xs = is.map .int
  | [], is, h => by simp [O.intsP] at h; subst h; rfl
  | x :: xs, is, h => by
    cases x <;> simp [O.intsP] at h
    obtain ⟨js, h1, rfl⟩ := h
    rw [intsP_eq h1]
    rfl
section
variable {Γ : Pg} {n : Nat} {c fa : Nat → Addr} {G : Fr} {N : List Str} {sc : Scope} {X : Cx} {κ : Cn} {cs : CS}
variable {a b e d : Expr} {da db dd : DE} {pos p : Pos}
theorem rvs_intsX {F : Addr → Prop} {ρ : List Addr} {H : Hp} : ∀ {is : List Int} {vs : List V}, RVs κ F ρ H (is.map .int) vs → vs = is.map V.int
  | [], vs, h => by simpa [RVs] using h
  | i :: is, vs, h => by
    simp only [List.map_cons, RVs] at h
    obtain ⟨v, r, rfl, h1, h2⟩ := h
    rw [rv_int h1, rvs_intsX h2]
    rfl
end
end Dn


namespace Dn
open PySem L2
open PySem.W (alike alikeAll dataLt)
namespace O
end O
section
variable {prog : Program} {w : World} {A : Around} {E : Value → Shared → Prop} {s : Shared}
end
section
variable {Γ : Pg} {n : Nat} {c fa : Nat → Addr} {G : Fr} {N : List Str} {sc : Scope} {X : Cx} {κ : Cn} {cs : CS}
variable {a b e d : Expr} {da db dd : DE} {pos p : Pos}
end
end Dn


namespace Dn
open PySem L2
open PySem.W (alike alikeAll dataLt)
namespace O
end O
section
variable {Γ : Pg} {n : Nat} {c fa : Nat → Addr} {G : Fr} {N : List Str} {sc : Scope} {X : Cx} {κ : Cn} {cs : CS}
variable {a b e d : Expr} {da db dd : DE} {pos p : Pos}
end
end Dn


namespace Dn
open PySem PySem.Spec PyProof.Rows L2
section
variable {P : Program} {w : World} {A : Around} {E : Value → Shared → Prop} {s : Shared}
abbrev nS (w : World) : Obj := { cls := .type "set", dict := none, data := .set #[] 0 (.fresh 0 0 (!w.params.followText "set-order")) }
end
section
variable {X : Cx} {a : Expr} {ta : TE} {p p2 q pos : Pos}
end
namespace O
end O
section
variable {Γ : Pg} {n : Nat} {c fa : Nat → Addr} {G : Fr} {N : List Str} {sc : Scope} {X : Cx} {κ : Cn} {cs : CS}
variable {a b e d : Expr} {da db dd : DE} {pos p p2 q : Pos}
end
end Dn


namespace Dn
section
variable {α : Type} [DecidableEq α]
end
end Dn
namespace Dn
open PySem PySem.Spec PyProof.Rows L2
structure Atom {P : Program} {w : World} {K : Type} [DecidableEq K] (kd : KeyKind P w K) where
  val : K → Tok → Value
  key : Value → K
  back : ∀ k t, key (val k t) = k
  same : ∀ k0 t k, kd.is k (val k0 t) = true ↔ k0 = k
  easy : ∀ k t, (val k t).scannable = true
section
variable {P : Program} {w : World} {K : Type} [DecidableEq K] {kd : KeyKind P w K} (B : Atom kd)
abbrev Atom.of (e : Int × Value) : K := B.key e.2
def Atom.Ok (e : Int × Value) : Prop := ∃ k t, e.2 = B.val k t ∧ e.1 = kd.hash k
structure SetG (h : Heap) (a : Addr) (S : K → Bool) (n : Nat) : Prop where
  ex : ∃ o es ep t, h.get? a = some o ∧ o.ExactSet ∧ o.data = .set es ep t ∧ (∀ e ∈ es.toList, B.Ok e) ∧ (es.toList.map B.of).Nodup ∧ (∀ k, S k = true ↔ k ∈ es.toList.map B.of) ∧ es.size < scanBound ∧ t.fits es.size = true ∧ es.size = n ∧ Ris t.place.toList ∧ (w.params.followText "set-order" = true ∨ t.led = true)
theorem SetG.keep {B : Atom kd} {h h' : Heap} {a : Addr} {S : K → Bool} {n : Nat} (R : SetG B h a S n) (k : ∀ o, h.get? a = some o → h'.get? a = some o) : SetG B h' a S n := by
  obtain ⟨o, es, ep, t, e, r⟩ := R.ex
  exact ⟨⟨o, es, ep, t, k o e, r⟩⟩
theorem SetG.turn {B : Atom kd} {h : Heap} {a : Addr} {S S' : K → Bool} {n : Nat} (R : SetG B h a S n) (e : ∀ k, S' k = S k) : SetG B h a S' n := by
  rw [show S' = S from funext e]; exact R
theorem SetG.new {h : Heap} {a : Addr} (ho : h.get? a = some (nS w)) : SetG B h a (fun _ => false) 0 :=
  ⟨_, #[], 0, _, ho, ⟨rfl, rfl, rfl⟩, rfl, (fun e he => by simp at he), (by simp), (fun k => by simp), (by decide), rfl, rfl, List.Pairwise.nil, by
    show _ ∨ (!w.params.followText "set-order") = true
    cases w.params.followText "set-order" <;> simp⟩
variable {A : Around} {E : Value → Shared → Prop} {s : Shared} {a : Addr} {S : K → Bool} {n : Nat}
end
end Dn
namespace Dn
open PySem PySem.Spec PyProof.Rows L2
section
variable {P : Program} {w : World} {K : Type} [DecidableEq K] {kd : KeyKind P w K} (B : Atom kd)
variable {A : Around} {E : Value → Shared → Prop} {s : Shared}
end
end Dn


namespace Dn
open PySem PySem.Spec L2
open PySem.W (alike alikeAll dataLt dataLe EachIs AllAlike Sortable SortsAt copyHeap sortingHeap copyHeap_at sorting_copy_old list_sort_vals sortVals sortVals_data sortVals_length each_map bound_map sort_maps sortingHeap_old)
open PyProof.Rows (Call_ sortedHeap sortedHeap_at sortedHeap_old seqObj size_push' kind_sorted plain_sorted entry_sorted args_sorted1 args_list_sort slot_list_sort entry_list_sort)
section
variable {P : Program} {w : World} {K : Type} [DecidableEq K] {kd : KeyKind P w K} (B : Atom kd)
variable {A : Around} {E : Value → Shared → Prop} {s : Shared} {a : Addr} {S : K → Bool} {n : Nat}
end

section
variable {X : Cx} {K : Type} [DecidableEq K] {kd : KeyKind X.prog X.w K} {e : Expr} {ta : TE} {p p2 q pos : Pos}
end
end Dn


namespace Dn
open PySem L2
open PySem.W (alike alikeAll dataLt dataLe EachIs AllAlike Sortable SortsAt each_map bound_map sort_maps KeyPure sorted_key_data)
open PyProof.Rows (seqObj ksk_s2 ksk_l2 ksk_t5 ksk_tree len_tuple)
section
variable {X : Cx}
end
namespace O
end O
section
variable {Γ : Pg} {n : Nat} {c fa : Nat → Addr} {G : Fr} {N : List Str} {sc : Scope} {X : Cx} {κ : Cn} {cs : CS}
variable {a b e d : Expr} {da db dd : DE} {pos p q q2 k1 k2 : Pos} {j : Nat}
end
end Dn


namespace Dn
open PySem

end Dn
namespace Dn
open PySem PySem.Spec PyProof.Rows L2
open PySem.W (alike dataLe AllAlike Sortable sort_maps)
namespace O
end O
section
variable {Γ : Pg} {n : Nat} {c fa : Nat → Addr} {G : Fr} {N : List Str} {sc : Scope} {X : Cx} {κ : Cn} {cs : CS}
variable {a b e d : Expr} {da db dd : DE} {pos p p2 q : Pos}
end
end Dn


namespace Dn
open PySem L2
namespace D
end D
section
variable {Γ : Pg} {n : Nat} {c fa : Nat → Addr} {G : Fr} {N : List Str} {sc : Scope} {X : Cx} {κ : Cn} {cs : CS}
variable {a b e d : Expr} {da db dd : DE} {pos p : Pos} {es : List Expr} {ds : DEs}
end
end Dn


namespace ID
open PySem L2
section
variable {P : Program} {w : World} {K : PySem.W.Frag} {tg : Expr} {d : Addr} {o : Obj} {u : HO} {ps : List (V × V)} {ee : Array DictEntry} {ep : Nat}
end
section
variable {X : Cx} {tg e : Expr} {td : TE}
end
end ID
namespace Dn
open PySem L2
namespace D
end D
section
variable {Γ : Pg} {n : Nat} {c fa : Nat → Addr} {G : Fr} {N : List Str} {sc : Scope} {X : Cx} {κ : Cn} {cs : CS}
variable {a b e d : Expr} {da db dd : DE} {pos p : Pos} {es : List Expr} {ds : DEs}
end
end Dn


namespace Dn
open PySem L2
section
variable {Γ : Pg} {n : Nat} {c fa : Nat → Addr} {G : Fr} {N : List Str} {sc scope : Scope} {X : Cx} {κ : Cn} {cs : CS}
end
end Dn


namespace Dn
open PySem L2
namespace ZLL
section
variable {prog : Program} {w : World} {A : Around} {E : Value → Shared → Prop} {s : Shared}
structure ZOn (h : Heap) (zz pI pO j1 j2 t1 t2 : Addr) (k : Nat) (lo : Addr) : Prop where
  zip : (k = 0 ∧ IsZip h zz pI pO .none ∧ ∃ x y, IsPair h pO x y) ∨ ∃ (T : Addr) (f : Bool) (oT : Obj), IsZipHeld h zz pI pO T f ∧ h.get? T = some oT ∧ lo < T
  ins : IsPair h pI (.ref j1) (.ref j2)
  i1 : h.IsListIter j1 t1 k
  i2 : h.IsListIter j2 t2 k
  lt : zz ≤ lo ∧ pI ≤ lo ∧ pO ≤ lo ∧ j1 ≤ lo ∧ j2 ≤ lo
theorem next_held {zz pI pO T j1 j2 t1 t2 : Addr} {f : Bool} {oT : Obj} {k1 k2 : Nat} {xs ys : Array Value} {x y : Value} {Q : Value → Shared → Prop} (D : ZipApart zz pI pO j1 j2 t1 t2)
    (hz : IsZipHeld s.heap zz pI pO T f) (eT : s.heap.get? T = some oT) (eI : IsPair s.heap pI (.ref j1) (.ref j2))
    (e1 : s.heap.IsListIter j1 t1 k1) (e2 : s.heap.IsListIter j2 t2 k2) (el1 : s.heap.IsList t1 xs) (el2 : s.heap.IsList t2 ys) (hx : xs[k1]? = some x) (hy : ys[k2]? = some y)
    (hQ : ∀ h', IsZipHeld h' zz pI pO T true → h'.IsListIter j1 t1 (k1 + 1) → h'.IsListIter j2 t2 (k2 + 1) → IsPair h' s.heap.objs.size x y → h'.objs.size = s.heap.objs.size + 1 →
      (∀ c o, c ≠ zz → c ≠ j1 → c ≠ j2 → s.heap.get? c = some o → h'.get? c = some o) → Q (.ref s.heap.objs.size) { s with heap := h' }) :
    wpAny (model prog w) A (Builtin.«zip.__next__» ⟨[.ref zz], []⟩) (fun fin s' => ∃ v, fin = .done (.ret v) ∧ Q v s') E s := by
  show wpAny _ _ (field (.ref zz) 2 >>= _) _ _ _
  refine wpAny_bind (wpAny_field hz rfl (x := Value.bool false) rfl ?_)
  show wpAny _ _ (field (.ref zz) 3 >>= _) _ _ _
  refine wpAny_bind (wpAny_field hz rfl (x := .ref pI) rfl ?_)
  refine wpAny_bind (wpAny_seqItems eI rfl ?_)
  show wpAny _ _ (Builtin.SmallTypes.ownedTupleIsFree (.ref zz) >>= _) _ _ _
  refine wpAny_bind (wpAny_tupleHeld_zip hz eT fun g1 z1 b1 => ?_)
  rw [if_neg Bool.false_ne_true]
  refine wpAny_bind ?_
  rw [← Array.forIn_toList]
  rw [show (#[Value.ref j1, Value.ref j2] : Array Value).toList = [.ref j1, .ref j2] from rfl, List.forIn_cons]
  refine wpAny_bind (wpAny_bind (wpAny_holding ?_))
  show wpAny _ _ (Builtin.SmallTypes.nextOf (.ref j1) >>= _) _ _ _
  refine wpAny_bind (wpAny_nextOf_list_item (s := { s with heap := g1 }) (e1.extBut b1.extBut D.i1z) (el1.extBut b1.extBut D.l1z) hx fun g2 q2 b2 => wpAny_pure ?_)
  refine wpAny_pure ?_
  show wpAny _ _ (forIn [Value.ref j2] _ _) _ _ _
  rw [List.forIn_cons]
  refine wpAny_bind (wpAny_bind (wpAny_holding ?_))
  show wpAny _ _ (Builtin.SmallTypes.nextOf (.ref j2) >>= _) _ _ _
  refine wpAny_bind (wpAny_nextOf_list_item (s := { s with heap := g2 }) ((e2.extBut b1.extBut D.i2z).extBut b2.extBut D.i12.symm) ((el2.extBut b1.extBut D.l2z).extBut b2.extBut D.l2i1) hy fun g3 q3 b3 => wpAny_pure ?_)
  refine wpAny_pure ?_
  show wpAny _ _ (forIn ([] : List Value) _ _) _ _ _
  rw [List.forIn_nil]
  refine wpAny_pure ?_
  show wpAny _ _ (newTuple [x, y] >>= _) _ _ _
  refine wpAny_bind (wpAny_newTuple ?_)
  have sz : g3.objs.size = s.heap.objs.size := by rw [b3.1, b2.1, b1.1]
  have z3 : IsZipHeld g3 zz pI pO T true := b3.extBut _ _ D.i2z.symm (b2.extBut _ _ D.i1z.symm z1)
  have kp : ∀ c o, c ≠ zz → c ≠ j1 → c ≠ j2 → s.heap.get? c = some o → g3.get? c = some o := fun c o c1 c2 c3 e => b3.extBut _ _ c3 (b2.extBut _ _ c2 (b1.extBut _ _ c1 e))
  have q1 : g3.IsListIter j1 t1 (k1 + 1) := q2.extBut b3.extBut D.i12
  refine wpAny_pure ⟨_, rfl, ?_⟩
  show Q (.ref g3.objs.size) _
  have hp : IsPair (g3.push { cls := .type "tuple", data := .seq #[x, y] }) g3.objs.size x y := Heap.get?_push_size _ rfl
  have hn : (g3.push { cls := .type "tuple", data := .seq #[x, y] }).objs.size = g3.objs.size + 1 := Heap.size_push ..
  rw [sz] at hp hn ⊢
  exact hQ _ (Heap.get?_push_of_some _ z3) (q1.at fun o e => Heap.get?_push_of_some _ e) (q3.at fun o e => Heap.get?_push_of_some _ e) hp hn fun c o c1 c2 c3 e => Heap.get?_push_of_some _ (kp c o c1 c2 c3 e)
theorem end_held {zz pI pO T j1 j2 t1 t2 : Addr} {f : Bool} {oT : Obj} {k1 k2 : Nat} {xs ys : Array Value} {Q : Fin → Shared → Prop} (hh : A.handled = none) (D : ZipApart zz pI pO j1 j2 t1 t2)
    (hz : IsZipHeld s.heap zz pI pO T f) (eT : s.heap.get? T = some oT) (eI : IsPair s.heap pI (.ref j1) (.ref j2))
    (e1 : s.heap.IsListIter j1 t1 k1) (e2 : s.heap.IsListIter j2 t2 k2) (el1 : s.heap.IsList t1 xs) (el2 : s.heap.IsList t2 ys) (hend : xs[k1]? = none ∨ ys[k2]? = none)
    (hE : ∀ h' e, (∀ c o, c ≠ zz → c ≠ j1 → c ≠ j2 → s.heap.get? c = some o → h'.get? c = some o) → (∃ o, h'.get? e = some o ∧ o.cls = .type "StopIteration") → E (.ref e) { s with heap := h' }) :
    wpAny (model prog w) A (Builtin.«zip.__next__» ⟨[.ref zz], []⟩) Q E s := by
  show wpAny _ _ (field (.ref zz) 2 >>= _) _ _ _
  refine wpAny_bind (wpAny_field hz rfl (x := Value.bool false) rfl ?_)
  show wpAny _ _ (field (.ref zz) 3 >>= _) _ _ _
  refine wpAny_bind (wpAny_field hz rfl (x := .ref pI) rfl ?_)
  refine wpAny_bind (wpAny_seqItems eI rfl ?_)
  show wpAny _ _ (Builtin.SmallTypes.ownedTupleIsFree (.ref zz) >>= _) _ _ _
  refine wpAny_bind (wpAny_tupleHeld_zip hz eT fun g1 z1 b1 => ?_)
  rw [if_neg Bool.false_ne_true]
  refine wpAny_bind ?_
  rw [← Array.forIn_toList]
  rw [show (#[Value.ref j1, Value.ref j2] : Array Value).toList = [.ref j1, .ref j2] from rfl, List.forIn_cons]
  refine wpAny_bind (wpAny_bind (wpAny_holding ?_))
  show wpAny _ _ (Builtin.SmallTypes.nextOf (.ref j1) >>= _) _ _ _
  cases hx : xs[k1]? with
  | none =>
    refine wpAny_bind (wpAny_nextOf_list_end (s := { s with heap := g1 }) hh (e1.extBut b1.extBut D.i1z) (el1.extBut b1.extBut D.l1z) hx fun g2 e b2 he => ?_)
    exact hE g2 e (fun c o c1 c2 _ q => b2 _ _ c2 (b1.extBut _ _ c1 q)) he
  | some x =>
    have hy : ys[k2]? = none := hend.resolve_left (by rw [hx]; simp)
    refine wpAny_bind (wpAny_nextOf_list_item (s := { s with heap := g1 }) (e1.extBut b1.extBut D.i1z) (el1.extBut b1.extBut D.l1z) hx fun g2 q2 b2 => wpAny_pure ?_)
    refine wpAny_pure ?_
    show wpAny _ _ (forIn [Value.ref j2] _ _) _ _ _
    rw [List.forIn_cons]
    refine wpAny_bind (wpAny_bind (wpAny_holding ?_))
    show wpAny _ _ (Builtin.SmallTypes.nextOf (.ref j2) >>= _) _ _ _
    refine wpAny_bind (wpAny_nextOf_list_end (s := { s with heap := g2 }) hh ((e2.extBut b1.extBut D.i2z).extBut b2.extBut D.i12.symm) ((el2.extBut b1.extBut D.l2z).extBut b2.extBut D.l2i1) hy fun g3 e b3 he => ?_)
    exact hE g3 e (fun c o c1 c2 c3 q => b3 _ _ c3 (b2.extBut _ _ c2 (b1.extBut _ _ c1 q))) he
theorem zon_item {zz pI pO j1 j2 t1 t2 lo : Addr} {k : Nat} {xs ys : Array Value} {x y : Value} {Q : Option Value → Shared → Prop} (D : ZipApart zz pI pO j1 j2 t1 t2) (Z : ZOn s.heap zz pI pO j1 j2 t1 t2 k lo) (el1 : s.heap.IsList t1 xs) (el2 : s.heap.IsList t2 ys) (hx : xs[k]? = some x) (hy : ys[k]? = some y) (hlo : lo < s.heap.objs.size)
    (hQ : ∀ h', ZOn h' zz pI pO j1 j2 t1 t2 (k + 1) lo → IsPair h' s.heap.objs.size x y → h'.objs.size = s.heap.objs.size + 1 → (∀ c o, c ≠ zz → c ≠ pO → c ≠ j1 → c ≠ j2 → s.heap.get? c = some o → h'.get? c = some o) → Q (some (.ref s.heap.objs.size)) { s with heap := h' }) :
    wpAny (model prog w) A (pyNext (.ref zz)) Q E s := by
  obtain ⟨l1, l2, l3, l4, l5⟩ := Z.lt
  rcases Z.zip with ⟨e, hz, a, b, hO⟩ | ⟨T, f, oT, hz, eT, hT⟩
  · refine ZM.zm_py_item (ka := false) (kb := false) D hz Z.ins hO Z.i1 Z.i2 el1 el2 hx hy fun h' z' _ q1 q2 hp hn kp => ?_
    exact hQ h' ⟨.inr ⟨s.heap.objs.size, false, _, z', hp, hlo⟩, kp _ _ D.TIz D.TITO D.TIi1 D.TIi2 Z.ins, q1, q2, Z.lt⟩ hp hn kp
  · have ty : s.TypeIs (.ref zz) "zip" := ⟨_, hz, rfl⟩
    unfold pyNext
    refine wpAny_bind (wpAny_attempt (wpAny_callSpecial?_slot (name := Str.ofString "__next__") ty F.slot_zip_next (wpAny_call_entry F.slot_zip_next ty F.entry_zip_next
      (next_held D hz eT Z.ins Z.i1 Z.i2 el1 el2 hx hy fun h' z' q1 q2 hp hn kp => wpAny_pure ?_) (F.args_zip_next_1 _))))
    refine hQ h' ⟨.inr ⟨T, true, oT, z', kp T oT (Nat.ne_of_gt (Nat.lt_of_le_of_lt l1 hT)) (Nat.ne_of_gt (Nat.lt_of_le_of_lt l4 hT)) (Nat.ne_of_gt (Nat.lt_of_le_of_lt l5 hT)) eT, hT⟩, kp _ _ D.TIz D.TIi1 D.TIi2 Z.ins, q1, q2, Z.lt⟩ hp hn fun c o c1 _ c3 c4 e => kp c o c1 c3 c4 e
theorem zon_end {zz pI pO j1 j2 t1 t2 lo : Addr} {k : Nat} {xs ys : Array Value} {Q : Option Value → Shared → Prop} (hh : A.handled = none) (D : ZipApart zz pI pO j1 j2 t1 t2) (Z : ZOn s.heap zz pI pO j1 j2 t1 t2 k lo) (el1 : s.heap.IsList t1 xs) (el2 : s.heap.IsList t2 ys) (hend : xs[k]? = none ∨ ys[k]? = none)
    (hQ : ∀ h', (∀ c o, c ≠ zz → c ≠ pO → c ≠ j1 → c ≠ j2 → s.heap.get? c = some o → h'.get? c = some o) → Q none { s with heap := h' }) : wpAny (model prog w) A (pyNext (.ref zz)) Q E s := by
  rcases Z.zip with ⟨e, hz, a, b, hO⟩ | ⟨T, f, oT, hz, eT, hT⟩
  · exact ZM.zm_py_end (ka := false) (kb := false) hh D hz Z.ins hO Z.i1 Z.i2 el1 el2 hend hQ
  · have ty : s.TypeIs (.ref zz) "zip" := ⟨_, hz, rfl⟩
    unfold pyNext
    refine wpAny_bind (wpAny_attempt (wpAny_callSpecial?_slot (name := Str.ofString "__next__") ty F.slot_zip_next
      (wpAny_call_entry F.slot_zip_next ty F.entry_zip_next (end_held hh D hz eT Z.ins Z.i1 Z.i2 el1 el2 hend fun h' e kp he => ?_) (F.args_zip_next_1 _))))
    obtain ⟨o, ho, hc⟩ := he
    refine wpAny_bind (wpAny_isInstance (T := "StopIteration") (b := true) ⟨o, ho, hc⟩ isSubtype_stop ?_)
    exact wpAny_pure (hQ h' fun c o c1 _ c3 c4 q => kp c o c1 c3 c4 q)
theorem ZOn.keep {h h' : Heap} {zz pI pO j1 j2 t1 t2 lo : Addr} {k : Nat} (Z : ZOn h zz pI pO j1 j2 t1 t2 k lo) {S : Addr} (hS : ∀ b o, b ≠ S → h.get? b = some o → h'.get? b = some o) (hs : S ≠ zz ∧ S ≠ pI ∧ S ≠ pO ∧ S ≠ j1 ∧ S ≠ j2) (hl : S ≤ lo) : ZOn h' zz pI pO j1 j2 t1 t2 k lo := by
  obtain ⟨s1, s2, s3, s4, s5⟩ := hs
  refine ⟨?_, hS _ _ s2.symm Z.ins, Z.i1.at fun o e => hS _ o s4.symm e, Z.i2.at fun o e => hS _ o s5.symm e, Z.lt⟩
  rcases Z.zip with ⟨e, hz, a, b, hO⟩ | ⟨T, f, oT, hz, eT, hT⟩
  · exact .inl ⟨e, hS _ _ s1.symm hz, a, b, hS _ _ s3.symm hO⟩
  · exact .inr ⟨T, f, oT, hS _ _ s1.symm hz, hS _ _ (Nat.ne_of_gt (Nat.lt_of_le_of_lt hl hT)) eT, hT⟩
end

section
variable {prog : Program} {w : World} {A : Around} {s : Shared} {R : Result → Shared → Prop} {zz pI pO j1 j2 t1 t2 lo : Addr} {xs ys : List Value}
theorem zip_at {xs ys : List Value} {i : Nat} (h : i < (xs.zip ys).length) : ∃ x y, xs[i]? = some x ∧ ys[i]? = some y ∧ (xs.zip ys)[i]? = some (x, y) := by
  rw [List.length_zip] at h
  refine ⟨xs[i], ys[i], by simp, by simp, ?_⟩
  rw [List.getElem?_eq_getElem (by rw [List.length_zip]; exact h), List.getElem_zip]
theorem zip_no {xs ys : List Value} {i : Nat} (h : (xs.zip ys).length ≤ i) : xs.toArray[i]? = none ∨ ys.toArray[i]? = none := by
  rw [List.length_zip] at h
  rcases Nat.lt_or_ge i xs.length with q | q
  · exact .inr (by simp; omega)
  · exact .inl (by simp; omega)
theorem zl_loop {S : Addr} (hh : A.handled = none) (D : ZipApart zz pI pO j1 j2 t1 t2) (hSz : S ≠ zz ∧ S ≠ pI ∧ S ≠ pO ∧ S ≠ j1 ∧ S ≠ j2) (hSt : t1 ≠ S ∧ t2 ≠ S) (ht : t1 ≠ zz ∧ t1 ≠ pO ∧ t1 ≠ j1 ∧ t1 ≠ j2 ∧ t2 ≠ zz ∧ t2 ≠ pO ∧ t2 ≠ j1 ∧ t2 ≠ j2)
    (hSl : S ≤ lo) (hn : (xs.zip ys).length ≤ sizeLine) (res : Value) {h1 : Heap}
    (hR : ∀ h' tk acc c as, (∀ b o, b ≠ S → b ≠ zz → b ≠ pO → b ≠ j1 → b ≠ j2 → h1.get? b = some o → h'.get? b = some o) → h'.get? S = some { cls := .type "list", dict := none, data := .seq acc c, slots := #[] } → as.length = (xs.zip ys).length →
      ZOut (xs.zip ys) lo h' as → acc.toList = as.map Value.ref → R (.ok (.ret res)) { s with heap := h', toks := tk }) :
    ∀ (k i : Nat) (h : Heap) (tk c : Nat) (acc : Array Value) (as : List Addr), (xs.zip ys).length - i = k → i ≤ (xs.zip ys).length → ZOn h zz pI pO j1 j2 t1 t2 i lo → h.IsList t1 xs.toArray → h.IsList t2 ys.toArray →
      (∀ b o, b ≠ S → b ≠ zz → b ≠ pO → b ≠ j1 → b ≠ j2 → h1.get? b = some o → h.get? b = some o) → h.get? S = some { cls := .type "list", dict := none, data := .seq acc c, slots := #[] } → acc.toList = as.map Value.ref → as.length = i →
      ZOut (xs.zip ys) lo h as → lo < h.objs.size → codeAny (model prog w) A (.builtin "list.extend.loop" ⟨[.ref S, .ref zz, res], []⟩) R { s with heap := h, toks := tk } := by
  obtain ⟨s1, s2, s3, s4, s5⟩ := hSz
  obtain ⟨u1, u2, u3, u4, u5, u6, u7, u8⟩ := ht
  intro k
  induction k with
  | zero =>
    intro i h tk c acc as hk hi Z T1 T2 keep eS eacc eas O hlo
    refine codeAny_builtin PySem.F.entry_extend_loop ?_
    rw [Around.under_plainId PySem.F.plain_extend_loop _]
    show wpAny _ A.in1 (pyNext (.ref zz) >>= _) _ _ _
    refine wpAny_bind (zon_end (s := { s with heap := h, toks := tk }) (A := A.in1) hh D Z T1 T2 (zip_no (by omega)) fun h' kp => ?_)
    have above : ∀ a ∈ as, a ≠ zz ∧ a ≠ pO ∧ a ≠ j1 ∧ a ≠ j2 := fun a ha => by
      have q := O.above a ha
      obtain ⟨l1, l2, l3, l4, l5⟩ := Z.lt
      exact ⟨Nat.ne_of_gt (Nat.lt_of_le_of_lt l1 q), Nat.ne_of_gt (Nat.lt_of_le_of_lt l3 q), Nat.ne_of_gt (Nat.lt_of_le_of_lt l4 q), Nat.ne_of_gt (Nat.lt_of_le_of_lt l5 q)⟩
    refine wpAny_pure (hR h' tk acc c as (fun b o b1 b2 b3 b4 b5 e => kp b o b2 b3 b4 b5 (keep b o b1 b2 b3 b4 b5 e)) (kp S _ s1 s3 s4 s5 eS) (by omega) ⟨O.rise, O.above, fun j a hj => ?_⟩ eacc)
    obtain ⟨x, y, e3, e4⟩ := O.pairs j a hj
    obtain ⟨a1, a2, a3, a4⟩ := above a (List.mem_of_getElem? hj)
    exact ⟨x, y, e3, kp a _ a1 a2 a3 a4 e4⟩
  | succ k ih =>
    intro i h tk c acc as hk hi Z T1 T2 keep eS eacc eas O hlo
    have hlt : i < (xs.zip ys).length := by omega
    obtain ⟨x, y, ex, ey, exy⟩ := zip_at hlt
    have hsz : acc.size = i := by rw [← Array.length_toList, eacc, List.length_map, eas]
    obtain ⟨l1, l2, l3, l4, l5⟩ := Z.lt
    have hSlt : S < h.objs.size := Heap.lt_size eS
    refine codeAny_builtin PySem.F.entry_extend_loop ?_
    rw [Around.under_plainId PySem.F.plain_extend_loop _]
    show wpAny _ A.in1 (pyNext (.ref zz) >>= _) _ _ _
    refine wpAny_bind (zon_item (s := { s with heap := h, toks := tk }) D Z T1 T2 (by simpa using ex) (by simpa using ey) hlo fun h' Z' hp hn' kp => ?_)
    dsimp only at hp hn' kp ⊢
    have eS' := kp S _ s1 s3 s4 s5 eS
    have up : ∀ b o, b ≠ S → h'.get? b = some o → (h'.update S (Obj.mapSeq (·.push (Value.ref h.objs.size)))).get? b = some o := fun b o hb e => (Heap.get?_update_other _ _ (Ne.symm hb)).trans e
    show wpAny _ A.in1 (updateSeq S (·.push (Value.ref h.objs.size)) >>= _) _ _ _
    refine wpAny_bind ?_
    have tup : ∀ {t : Addr} {its : Array Value}, t ≠ S → t ≠ zz → t ≠ pO → t ≠ j1 → t ≠ j2 → h.IsList t its → (h'.update S (Obj.mapSeq (·.push (Value.ref h.objs.size)))).IsList t its := fun {t its} c1 c2 c3 c4 c5 ⟨o, e, z⟩ => ⟨o, up _ _ c1 (kp _ _ c2 c3 c4 c5 e), z⟩
    refine wpAny_updateSeq eS' rfl (wpAny_pure ⟨plainId_quiet PySem.F.plain_extend_loop _, ih (i + 1) _ tk _ (acc.push (Value.ref h.objs.size)) (as ++ [h.objs.size]) (by omega) hlt (Z'.keep (fun b o hb e => up b o hb e) ⟨s1, s2, s3, s4, s5⟩ hSl)
      (tup hSt.1 u1 u2 u3 u4 T1) (tup hSt.2 u5 u6 u7 u8 T2) (fun b o b1 b2 b3 b4 b5 e => up b o b1 (kp b o b2 b3 b4 b5 (keep b o b1 b2 b3 b4 b5 e))) (Heap.get?_update_self _ eS' rfl) (by rw [Array.toList_push, eacc, List.map_append]; rfl) (by rw [List.length_append, eas]; rfl)
      ⟨?_, ?_, ?_⟩ ?_⟩) (by rw [hsz]; omega) (by show (acc.push (Value.ref h.objs.size)).size ≤ sizeLine + 1; rw [Array.size_push, hsz]; omega)
    · refine List.pairwise_append.mpr ⟨O.rise, List.pairwise_singleton _ _, fun a ha b hb => ?_⟩
      rw [List.mem_singleton.mp hb]
      obtain ⟨j, hj⟩ := List.mem_iff_getElem?.mp ha
      obtain ⟨_, _, _, e⟩ := O.pairs j a hj
      exact Heap.lt_size e
    · intro a ha
      rcases List.mem_append.mp ha with ha | ha
      · exact O.above a ha
      · rw [List.mem_singleton.mp ha]; exact hlo
    · intro j b hj
      rcases Nat.lt_trichotomy j as.length with q | q | q
      · rw [List.getElem?_append_left q] at hj
        obtain ⟨x', y', e3, e4⟩ := O.pairs j b hj
        have hb := O.above b (List.mem_of_getElem? hj)
        exact ⟨x', y', e3, up b _ (Nat.ne_of_gt (Nat.lt_of_le_of_lt hSl hb)) (kp b _ (Nat.ne_of_gt (Nat.lt_of_le_of_lt l1 hb)) (Nat.ne_of_gt (Nat.lt_of_le_of_lt l3 hb)) (Nat.ne_of_gt (Nat.lt_of_le_of_lt l4 hb)) (Nat.ne_of_gt (Nat.lt_of_le_of_lt l5 hb)) e4)⟩
      · subst q
        have hb : h.objs.size = b := by simpa using hj
        subst hb
        exact ⟨x, y, by rw [eas]; exact exy, up _ _ (Nat.ne_of_gt hSlt) hp⟩
      · have no : (as ++ [h.objs.size])[j]? = none := List.getElem?_eq_none (by rw [List.length_append, List.length_singleton]; omega)
        rw [no] at hj; cases hj
    · have e : (h'.update S (Obj.mapSeq (·.push (Value.ref h.objs.size)))).get? h.objs.size = _ := up _ _ (Nat.ne_of_gt hSlt) hp
      exact Nat.lt_trans hlo (Heap.lt_size e)
theorem nolen_zip : typeLookup (.type "zip") "__len__" = pure none := by rw [typeLookup_type, builtinLookup_eq_fast]; kernel_rfl
theorem nohint_zip : typeLookup (.type "zip") "__length_hint__" = pure none := by rw [typeLookup_type, builtinLookup_eq_fast]; kernel_rfl
end
section
variable {prog : Program} {w : World} {A : Around} {E : Value → Shared → Prop} {s : Shared} {zz pI pO j1 j2 t1 t2 lo : Addr} {xs ys : List Value}
theorem zl_extend {S : Addr} {R : Result → Shared → Prop} (hh : A.handled = none) (D : ZipApart zz pI pO j1 j2 t1 t2) (hSz : S ≠ zz ∧ S ≠ pI ∧ S ≠ pO ∧ S ≠ j1 ∧ S ≠ j2) (hSt : t1 ≠ S ∧ t2 ≠ S) (ht : t1 ≠ zz ∧ t1 ≠ pO ∧ t1 ≠ j1 ∧ t1 ≠ j2 ∧ t2 ≠ zz ∧ t2 ≠ pO ∧ t2 ≠ j1 ∧ t2 ≠ j2)
    (hn : (xs.zip ys).length ≤ sizeLine) (res : Value) {c0 : Nat} (hlo : S = lo) (hz0 : IsZip s.heap zz pI pO .none) (Z : ZOn s.heap zz pI pO j1 j2 t1 t2 0 lo) (T1 : s.heap.IsList t1 xs.toArray) (T2 : s.heap.IsList t2 ys.toArray) (eS : s.heap.get? S = some { cls := .type "list", data := .seq #[] c0 })
    (hR : ∀ h' tk acc c as, (∀ b o, b ≠ S → b ≠ zz → b ≠ pO → b ≠ j1 → b ≠ j2 → s.heap.get? b = some o → h'.get? b = some o) → h'.get? S = some { cls := .type "list", dict := none, data := .seq acc c, slots := #[] } → as.length = (xs.zip ys).length →
      ZOut (xs.zip ys) lo h' as → acc.toList = as.map Value.ref → R (.ok (.ret res)) { s with heap := h', toks := tk }) :
    wpAny (model prog w) A.in1 (Builtin.List.listExtendWith (.ref S) (.ref zz) res)
      (fun fin s' => match fin with | .done f => R (.ok f) s' | .again c' => c'.quiet = true ∧ codeAny (model prog w) A c' R s') (fun e s' => R (.error e) s') s := by
  obtain ⟨s1, s2, s3, s4, s5⟩ := id hSz
  have zty : s.TypeIs (.ref zz) "zip" := ⟨_, hz0, rfl⟩
  unfold Builtin.List.listExtendWith
  refine wpAny_bind (wpAny_typeOf (T := "zip") zty ?_)
  have h1 : Builtin.List.listSameRef (.ref S) (.ref zz) = false := by simp [Builtin.List.listSameRef, s1]
  have h2 : (Value.type "zip" == Value.type "list") = false := by decide
  have h3 : (Value.type "zip" == Value.type "tuple") = false := by decide
  rw [h1, h2, h3]
  rw [if_neg (by simp)]
  refine wpAny_bind (wpAny_pyIter_zip hz0 ?_)
  refine wpAny_bind (wpAny_holding ?_)
  unfold Builtin.List.listLengthHint
  refine wpAny_bind (wpAny_specialOf zty nolen_zip ?_)
  show wpAny _ A.in1 (specialOf (Value.ref zz) (Str.ofString "__length_hint__") >>= _) _ _ _
  refine wpAny_bind (wpAny_specialOf zty nohint_zip ?_)
  refine wpAny_pure ?_
  show wpAny _ A.in1 (rule "list.extend.makes-room" >>= fun _ => Builtin.List.listTouch (.ref S) >>= fun _ =>
    again (.builtin "list.extend.loop" ⟨[.ref S, .ref zz, res], []⟩)) _ _ _
  refine wpAny_bind (wpAny_rule ?_)
  refine wpAny_bind ?_
  show wpAny _ A.in1 (updateSeq S (·.push .none) >>= fun _ => updateSeq S (·.pop)) _ _ _
  refine wpAny_bind (wpAny_updateSeq eS rfl ?_)
  have eS2 := Heap.get?_update_self (Obj.mapSeq (·.push Value.none)) eS rfl
  refine wpAny_updateSeq eS2 rfl ?_
  have eS3 := Heap.get?_update_self (Obj.mapSeq (·.pop)) eS2 rfl
  have oth : ∀ b o, b ≠ S → s.heap.get? b = some o → ((s.heap.update S (Obj.mapSeq (·.push Value.none))).update S (Obj.mapSeq (·.pop))).get? b = some o :=
    fun b o hb e => (Heap.get?_update_other _ _ (Ne.symm hb)).trans ((Heap.get?_update_other _ _ (Ne.symm hb)).trans e)
  refine wpAny_pure ⟨plainId_quiet PySem.F.plain_extend_loop _, zl_loop (s := s) (h1 := s.heap) hh D hSz hSt ht (by rw [hlo]; exact Nat.le_refl _) hn res hR _ 0 _ s.toks _ #[] [] rfl (Nat.zero_le _) (Z.keep oth hSz (by rw [hlo]; exact Nat.le_refl _)) ?_ ?_ (fun b o b1 _ _ _ _ e => oth b o b1 e) eS3 rfl rfl
    ⟨List.Pairwise.nil, (fun _ ha => nomatch ha), (fun j a hj => by simp at hj)⟩ (by rw [← hlo]; exact Heap.lt_size eS3)⟩
  · obtain ⟨o, e, z⟩ := T1
    exact ⟨o, oth _ _ hSt.1 e, z⟩
  · obtain ⟨o, e, z⟩ := T2
    exact ⟨o, oth _ _ hSt.2 e, z⟩
theorem zl_call {Q : Value → Shared → Prop} (hh : A.handled = none) (D : ZipApart zz pI pO j1 j2 t1 t2) (hz0 : IsZip s.heap zz pI pO .none) (hO : ∃ x y, IsPair s.heap pO x y) (hI : IsPair s.heap pI (.ref j1) (.ref j2)) (e1 : s.heap.IsListIter j1 t1 0) (e2 : s.heap.IsListIter j2 t2 0)
    (T1 : s.heap.IsList t1 xs.toArray) (T2 : s.heap.IsList t2 ys.toArray) (ht : t1 ≠ zz ∧ t1 ≠ pO ∧ t1 ≠ j1 ∧ t1 ≠ j2 ∧ t2 ≠ zz ∧ t2 ≠ pO ∧ t2 ≠ j1 ∧ t2 ≠ j2) (hn : (xs.zip ys).length ≤ sizeLine)
    (hQ : ∀ h' tk acc c as, (∀ b o, b ≠ zz → b ≠ pO → b ≠ j1 → b ≠ j2 → s.heap.get? b = some o → h'.get? b = some o) → h'.get? s.heap.objs.size = some { cls := .type "list", dict := none, data := .seq acc c, slots := #[] } → as.length = (xs.zip ys).length →
      ZOut (xs.zip ys) s.heap.objs.size h' as → acc.toList = as.map Value.ref → Q (.ref s.heap.objs.size) { s with heap := h', toks := tk }) : wpAny (model prog w) A (call (.type "list") [.ref zz]) Q E s := by
  refine callType_codes (Q₁ := fun obj s₁ => obj = .ref s.heap.objs.size ∧ s₁ = { s with heap := s.heap.push { cls := .type "list", data := .seq #[] } }) PySem.F.called_list (PySem.F.typeCall_list_1 _) PySem.F.entry_list_init
    (code_list_new _ ⟨rfl, rfl⟩) fun obj sN hN => ?_
  obtain ⟨rfl, rfl⟩ := hN
  have eS : (s.heap.push { cls := .type "list", data := .seq #[] }).get? s.heap.objs.size = some { cls := .type "list", data := .seq #[] } := Heap.get?_push_size _ rfl
  have lz : zz < s.heap.objs.size := Heap.lt_size hz0
  have lI : pI < s.heap.objs.size := Heap.lt_size hI
  have lO : pO < s.heap.objs.size := by obtain ⟨_, _, h⟩ := hO; exact Heap.lt_size h
  have lj1 : j1 < s.heap.objs.size := by obtain ⟨_, h, _⟩ := e1; exact Heap.lt_size h
  have lj2 : j2 < s.heap.objs.size := by obtain ⟨_, h, _⟩ := e2; exact Heap.lt_size h
  have lt1 : t1 < s.heap.objs.size := by obtain ⟨_, h, _⟩ := T1; exact Heap.lt_size h
  have lt2 : t2 < s.heap.objs.size := by obtain ⟨_, h, _⟩ := T2; exact Heap.lt_size h
  refine ⟨⟨_, eS, rfl⟩, PySem.F.args_list_init_2 _ _, ?_⟩
  show wpAny _ _ (do
    let old ← Builtin.List.listItems (.ref s.heap.objs.size)
    Builtin.List.listUpdate (.ref s.heap.objs.size) (fun _ => #[])
    letGo old.toList.reverse
    Builtin.List.listExtendWith (.ref s.heap.objs.size) (.ref zz) .none) _ _ _
  refine wpAny_bind ?_
  unfold Builtin.List.listItems
  refine wpAny_bind (wpAny_seqItems eS rfl (wpAny_pure ?_))
  show wpAny _ _ (updateSeq s.heap.objs.size (fun _ => #[]) >>= fun _ => letGo (#[] : Array Value).toList.reverse >>= fun _ => Builtin.List.listExtendWith (.ref s.heap.objs.size) (.ref zz) .none) _ _ _
  refine wpAny_bind (wpAny_updateSeq eS rfl ?_)
  have eS2 := Heap.get?_update_self (Obj.mapSeq (fun _ => (#[] : Array Value))) eS rfl
  have oth : ∀ b o, s.heap.get? b = some o → ((s.heap.push { cls := .type "list", data := .seq #[] }).update s.heap.objs.size (Obj.mapSeq (fun _ => (#[] : Array Value)))).get? b = some o :=
    fun b o e => (Heap.get?_update_other _ _ (Nat.ne_of_gt (Heap.lt_size e))).trans (Heap.get?_push_of_some _ e)
  refine wpAny_bind (wpAny_letGo ?_)
  obtain ⟨x0, y0, hO⟩ := hO
  refine zl_extend (lo := s.heap.objs.size) (A := A.in1) hh D ⟨Nat.ne_of_gt lz, Nat.ne_of_gt lI, Nat.ne_of_gt lO, Nat.ne_of_gt lj1, Nat.ne_of_gt lj2⟩ ⟨Nat.ne_of_lt lt1, Nat.ne_of_lt lt2⟩ ht hn .none rfl (oth _ _ hz0)
    ⟨.inl ⟨rfl, oth _ _ hz0, x0, y0, oth _ _ hO⟩, oth _ _ hI, e1.at fun o e => oth _ o e, e2.at fun o e => oth _ o e, ⟨Nat.le_of_lt lz, Nat.le_of_lt lI, Nat.le_of_lt lO, Nat.le_of_lt lj1, Nat.le_of_lt lj2⟩⟩
    (let ⟨o, e, z⟩ := T1; ⟨o, oth _ _ e, z⟩) (let ⟨o, e, z⟩ := T2; ⟨o, oth _ _ e, z⟩) eS2 fun h' tk acc c as kp eS3 el O ea => ?_
  exact ⟨rfl, hQ h' tk acc c as (fun b o b2 b3 b4 b5 e => kp b o (Nat.ne_of_lt (Heap.lt_size e)) b2 b3 b4 b5 (oth b o e)) eS3 el O ea⟩
end
section
variable {X : Cx} {pins : List (Addr × Obj)} {σ : L2.St} {H : Hp} {s : Shared}
end
end ZLL
namespace D
end D
section
variable {Γ : Pg} {n : Nat} {c fa : Nat → Addr} {G : Fr} {N : List Str} {sc : Scope} {X : Cx} {κ : Cn} {cs : CS}
variable {a b e d : Expr} {da db dd : DE} {pos pos2 p q : Pos} {es : List Expr} {ds : DEs}
end
end Dn


namespace Dn
open PySem L2
namespace D
end D
section
variable {Γ : Pg} {n : Nat} {c fa : Nat → Addr} {G : Fr} {N : List Str} {sc : Scope} {X : Cx} {κ : Cn} {cs : CS}
variable {a b e d : Expr} {da db dd : DE} {pos pos2 p q : Pos} {es : List Expr} {ds : DEs}
end
end Dn


namespace Dn
open PySem L2
namespace D
end D
section
variable {Γ : Pg} {n : Nat} {c fa : Nat → Addr} {G : Fr} {N : List Str} {sc scope : Scope} {X : Cx} {κ : Cn} {cs : CS}
variable {a b e d tg iter elt : Expr} {da db dd de : DE} {pos p : Pos} {es : List Expr} {ds : DEs}
end
section
variable {Γ : Pg} {n : Nat} {c fa : Nat → Addr} {G : Fr} {N : List Str} {sc scope : Scope} {X : Cx} {κ : Cn} {cs : CS}
variable {a b e tg iter elt t : Expr} {da db dd de d dt : DE} {pos p : Pos} {es : List Expr} {ds : DEs} {x y : Stmt} {xs ys : List Stmt} {dx dy : DS} {g : DTg}
end
end Dn


namespace ZM
open PySem L2
end ZM
namespace Dn
open PySem L2
namespace D
end D
section
variable {Γ : Pg} {n : Nat} {c fa : Nat → Addr} {G : Fr} {N : List Str} {sc : Scope} {X : Cx} {κ : Cn} {cs : CS}
variable {a b e d : Expr} {da db dd : DE} {pos p : Pos} {es : List Expr} {ds : DEs}
end
end Dn


namespace ZM
open PySem L2
end ZM
namespace Dn
open PySem L2
namespace D
end D
section
variable {Γ : Pg} {n : Nat} {c fa : Nat → Addr} {G : Fr} {N : List Str} {sc : Scope} {X : Cx} {κ : Cn} {cs : CS}
variable {a b e d : Expr} {da db dd : DE} {pos p : Pos} {es : List Expr} {ds : DEs}
end
end Dn


namespace ZM
open PySem L2
section
variable {prog : Program} {w : World} {A : Around} {E : Value → Shared → Prop} {s : Shared}
end
end ZM
namespace Dn
open PySem L2
namespace D
end D
section
variable {Γ : Pg} {n : Nat} {c fa : Nat → Addr} {G : Fr} {N : List Str} {sc : Scope} {X : Cx} {κ : Cn} {cs : CS}
variable {a b e d : Expr} {da db dd : DE} {pos p : Pos} {es : List Expr} {ds : DEs}
end
end Dn


namespace PySem
section
open PySem PySem.Spec PyProof.Rows PySem.AutoSeq1
end
end PySem
namespace Dn
open PySem PySem.Spec PyProof.Rows L2
section
variable {X : Cx}
end
namespace D
end D
section
variable {Γ : Pg} {n : Nat} {c fa : Nat → Addr} {G : Fr} {N : List Str} {sc : Scope} {X : Cx} {κ : Cn} {cs : CS}
variable {a b e d : Expr} {da db dd : DE} {pos p : Pos}
end
end Dn


namespace Dn
open PySem L2
namespace D
end D
section
variable {Γ : Pg} {n : Nat} {c fa : Nat → Addr} {G : Fr} {N : List Str} {sc scope : Scope} {X : Cx} {κ : Cn} {cs : CS}
end
end Dn


namespace Dn
open PySem L2 PySem.Spec PyProof.Rows
section
variable {Γ : Pg} {n : Nat} {c fa : Nat → Addr} {G : Fr} {N : List Str} {sc : Scope} {X : Cx} {κ : Cn} {cs : CS}
end
end Dn


namespace Dn
open PySem L2
open PySem.W (alike alikeAll dataLt)
namespace O
end O
section
variable {Γ : Pg} {n : Nat} {c fa : Nat → Addr} {G : Fr} {N : List Str} {sc : Scope} {X : Cx} {κ : Cn} {cs : CS}
variable {a b e d : Expr} {da db dd : DE} {pos p : Pos}
end
end Dn


namespace L2
open PySem PySem.Spec PyProof.Rows
section
variable {X : Cx}
end
section
variable {X : Cx}
end
end L2
namespace Dn
open PySem L2
namespace O
end O
section
variable {Γ : Pg} {n : Nat} {c fa : Nat → Addr} {G : Fr} {N : List Str} {sc : Scope} {X : Cx} {κ : Cn} {cs : CS}
variable {a b e d : Expr} {da db dd : DE} {pos p : Pos} {es : List Expr} {ds : DEs}
end
end Dn


namespace Dn
open PySem L2
namespace O
end O
section
variable {Γ : Pg} {n : Nat} {c fa : Nat → Addr} {G : Fr} {N : List Str} {sc : Scope} {X : Cx} {κ : Cn} {cs : CS}
variable {a b e d : Expr} {da db dd : DE} {pos p : Pos}
end
end Dn


namespace Dn
open PySem L2
namespace D
def mergeP (kvs more : List (PV × PV)) : List (PV × PV) := more.foldl (fun acc p => put p.1 p.2 acc) kvs
def tdOf (st : Store) (m : Nat) : Option (List (PV × PV)) := match st[m]? with
  | some (.dic true kvs) => some kvs
  | some (.frd true kvs) => some kvs
  | _ => none
def tdAt (st : Store) : PV → Bool
  | .ref n => (match st[n]? with | some (.dic true _) => true | _ => false)
  | _ => false
def upd1 (st : Store) : PV → PV → Option Store
  | .ref n, .ref m => if n.beq m then none else (match st[n]?, tdOf st m with
    | some (.dic true kvs), some more => if decide (kvs.length + more.length ≤ 1000000) && (!kvs.isEmpty || more.length.ble 1) then some (st.set n (.dic true (mergeP kvs more))) else none
    | _, _ => none)
  | _, _ => none
def update (o e : DE) : DE := fun c σ st => (o c σ st).bind fun x st => if tdAt st x then (e c σ st).bind fun v st => match upd1 st x v with
    | some st' => .ok .non st'
    | none => .bad
  else .bad
end D
section
variable {Γ : Pg} {n : Nat} {c fa : Nat → Addr} {G : Fr} {N : List Str} {sc : Scope} {X : Cx} {κ : Cn} {cs : CS}
variable {a b e d : Expr} {da db dd : DE} {pos p : Pos} {es : List Expr} {ds : DEs}
theorem rts_merge {F : Addr → Prop} {ρ : List Addr} {H : Hp} : ∀ {more : List (PV × PV)} {es' : List E3} {kvs : List (PV × PV)} {es : List E3}, RTs κ F ρ H kvs es → RTs κ F ρ H more es' → RTs κ F ρ H (D.mergeP kvs more) (putAll es es')
  | [], es', kvs, es, h, g => by
    simp only [RTs] at g
    subst g
    exact h
  | (k, v) :: r, es', kvs, es, h, g => by
    simp only [RTs] at g
    obtain ⟨kk, a, w, r', rfl, h1, h2, h3, h4⟩ := g
    show RTs κ F ρ H (D.mergeP (put k v kvs) r) (putAll (putT es kk a w) r')
    exact rts_merge (h.put h1 h2 h3) h4
theorem rts_tup {pins : List (Addr × Obj)} {σ : St} {H : Hp} {s : Shared} (I : Inv X pins σ H s) {F : Addr → Prop} {ρ : List Addr} : ∀ {kvs : List (PV × PV)} {es : List E3} {ys : List (NestedKey × Addr × Value)}, RTs (cnOf X c) F ρ H kvs es → Paired EV es ys → ∀ y ∈ ys, s.TypeIs (.ref y.2.1) "tuple"
  | [], es, ys, h, p => by
    simp only [RTs] at h
    subst h
    cases p
    exact fun y hy => absurd hy (by simp)
  | (k, v) :: r, es, ys, h, p => by
    simp only [RTs] at h
    obtain ⟨kk, a, w, r', rfl, h1, h2, h3, h4⟩ := h
    cases p with
    | cons q p =>
      intro y hy
      rcases List.mem_cons.mp hy with e | hy
      · subst e
        obtain ⟨e1, e2, _⟩ := q
        rw [← e2]
        cases k <;> simp only [toNK, Option.some.injEq, reduceCtorEq] at h1
        · simp only [RV, reduceCtorEq] at h2
        · simp only [RV, reduceCtorEq] at h2
        · simp only [RV] at h2
          obtain ⟨a', xs, e, h5, _⟩ := h2
          cases e
          obtain ⟨its, rv, ⟨o, ho, hc, _⟩, _⟩ := I.tuple h5.sqT
          exact ⟨o, ho, hc⟩
      · exact rts_tup I h4 p y hy
def rUpd (X : Cx) (c : Nat → Addr) : V → List V → Hp → VK → Prop := fun x vs H Q => ∃ F ρ a b kvs es more es', x = .ref a ∧ vs = [.ref b] ∧ a ≠ b ∧ H a = some (dTO (cnOf X c) a es) ∧ RTs (cnOf X c) F ρ H kvs es ∧ Rd H b (dTO (cnOf X c) b es') ∧ RTs (cnOf X c) F ρ H more es' ∧
  (es ≠ [] ∨ es'.length ≤ 1) ∧ es.length + es'.length ≤ sizeLine ∧ Q .non (upd H a (dTO (cnOf X c) a (putAll es es')))
theorem mt_update (hu : X.A.units + 64 < cLine) : MtR X "dict.update" (rUpd X c) := by
  intro pins s σ H x xs v us Q I rx rxs h
  obtain ⟨F, ρ, a, b, kvs, es, more, es', rfl, rfl, hab, ha, ra, hb, rb, hap, hsz, q⟩ := h
  cases rx
  cases rxs with
  | cons ry rxs =>
    cases rxs
    cases ry
    obtain ⟨ys, hd, p, sys, _, deep⟩ := dT_of I (.inl ha) ra
    obtain ⟨zs, hd', p', sys', _, deep'⟩ := dT_of I hb rb
    have l1 : es.length = ys.length := Paired.length p
    have l2 : es'.length = zs.length := Paired.length p'
    refine call_update_dictH (room8 hu _ _) hab sys' hd hd' ?_ (by omega) fun h' dd dd' hs => ?_
    · rcases hap with hap | hap
      · refine .inl fun z => hap ?_
        subst z
        exact List.length_eq_zero_iff.mp l1
      · refine .inr ⟨rts_tup I rb p', ?_⟩
        match zs, l2 with
        | [], _ => exact List.nodup_nil
        | [z], _ => exact List.nodup_cons.mpr ⟨by simp, List.nodup_nil⟩
        | _ :: _ :: _, l2 => simp at l2; omega
    · refine ⟨.non, _, I.write (t' := s.toks) (x := a) (e := a) (o := dTO (cnOf X c) a (putAll es es')) (by rw [ha]; exact trivial) (.inl rfl) (fun b u hb e => (hs.2 b hb).trans e) (let ⟨q, _, _, hq, _⟩ := dd; ⟨q, hq⟩) ?_, rfl, q⟩
      refine dT_ok (κ := cnOf X c) rfl rfl sys ?_ (putAll_deep deep deep') (putAll_of p' p) dd
      have := putAll_len es' es
      omega
theorem td_at {ρ : List Addr} {st : Store} {H : Hp} {m : Nat} {more : List (PV × PV)} {b : Addr} (A : At κ G ρ st H) (h : D.tdOf st m = some more) (hb : ρ[m]? = some b) : ∃ es', Rd H b (dTO κ b es') ∧ RTs κ (Fo G.B ρ) ρ H more es' := by
  unfold D.tdOf at h
  split at h
  · rename_i kvs em
    cases h
    obtain ⟨es, h2, h3⟩ := A.wd.ob m _ b em hb
    exact ⟨es, .inl h2, h3⟩
  · rename_i kvs em
    cases h
    obtain ⟨o, es, h2, h3⟩ := A.wd.ob m _ b em hb
    exact ⟨es, .inr ⟨o, h2⟩, h3⟩
  · cases h
theorem SE.update {apos : Pos} (ha : SE Γ N sc a da) (hb : SE Γ N sc b db) (hm : MRows a ("update" : Str) apos b [] pos) : SE Γ N sc (.Call (.Attribute a ("update" : Str) apos) [b] [] pos) (D.update da db) := fun n c fa G X g => by
  refine (pe_bmG (P := fun x H => ∃ a, x = .ref a ∧ ∃ es F ρ kvs, Rd H a (dTO (cnOf X c) a es) ∧ RTs (cnOf X c) F ρ H kvs es) PySem.F.plainAttrs_dict PySem.F.slot_dict_update PySem.F.type_dict_update (mt_update (c := c) g.u64) ?_ (ha n c fa G X g) (pa_cons (hb n c fa G X g) pa_nil (hm.st _)) (hm.base _) (hm.few _) hm.line (hm.st _) (hm.pl _)).imp ?_
  · rintro pins σ H s x v I rx ⟨a', rfl, es, F, ρ, kvs, h, r⟩
    cases rx
    obtain ⟨ys, hd, _⟩ := dT_of I h r
    refine ⟨hd.typeIs, fun b e => ?_⟩
    cases e
    obtain ⟨o, _, _, h1, h2, _⟩ := hd
    exact ⟨o, h1, h2.2.1⟩
  · rintro σ H Q ⟨ρ, st, σp, A, R, o⟩
    refine tE_bind A R o fun v st1 ρ1 H1 u e1 A1 R1 ru o1 => ?_
    split at o1
    · rename_i hl
      refine ⟨?_, tE_bind A1 R1 o1 fun w st2 ρ2 H2 z e2 A2 R2 rz o2 => ?_⟩
      · unfold D.tdAt at hl
        split at hl
        · split at hl
          · rename_i em
            simp only [RV] at ru
            obtain ⟨a', rfl, h1⟩ := ru
            obtain ⟨es, h2, h3⟩ := A1.wd.ob _ _ a' em h1
            exact ⟨a', rfl, es, _, _, _, .inl h2, h3⟩
          · cases hl
        · cases hl
      · have ru := ru.mono (e2.mono (κ := cnOf X c) (B := G.B))
        split at o2
        · rename_i st' es'
          unfold D.upd1 at es'
          split at es'
          · rename_i k m _
            split at es'
            · cases es'
            · rename_i hkm
              split at es'
              · rename_i kvs more em et
                split at es'
                · rename_i hh
                  cases es'
                  simp only [Bool.and_eq_true, decide_eq_true_eq] at hh
                  simp only [RV] at ru rz
                  obtain ⟨a', rfl, h1⟩ := ru
                  obtain ⟨b', rfl, h1'⟩ := rz
                  obtain ⟨es, h2, h3⟩ := A2.wd.ob k _ a' em h1
                  obtain ⟨es', h2', h3'⟩ := td_at A2 et h1'
                  have hne : a' ≠ b' := fun e => hkm (by rw [e] at h1; have := nodup_get A2.wd.nd h1 h1'; rw [this]; exact Nat.beq_refl _)
                  have nt : ∀ xs, H2 a' ≠ some (.tup xs) := fun xs => by rw [h2]; simp
                  have nf : ∀ o u, H2 a' ≠ some (.frz o u) := fun o u => by rw [h2]; simp
                  have e3 := ext_put A2.wd (o := dTO (cnOf X c) a' (putAll es es')) h1 nt nf
                  have A3 : At (cnOf X c) G ρ2 (st2.set k (.dic true (D.mergeP kvs more))) (upd H2 a' (dTO (cnOf X c) a' (putAll es es'))) :=
                    A2.step e3 (A2.wd.put h1 nt nf ⟨_, upd_same, (rts_merge h3 h3').mono e3.mono⟩)
                  refine ⟨_, ρ2, a', b', kvs, es, more, es', rfl, rfl, hne, h2, h3, h2', h3', ?_, ?_, o2 ρ2 _ e3 A3 .non (by simp only [RV])⟩
                  · have l1 := h3.length
                    have l2 := h3'.length
                    rcases Bool.or_eq_true_iff.mp hh.2 with z | z
                    · refine .inl fun e => ?_
                      subst e
                      have : kvs = [] := List.length_eq_zero_iff.mp l1
                      subst this
                      simp at z
                    · exact .inr (by rw [← l2]; exact Nat.le_of_ble_eq_true z)
                  · rw [← h3.length, ← h3'.length]
                    exact Nat.le_trans hh.1 big
                · cases es'
              · cases es'
          · cases es'
        · exact o2.elim
    · exact o1.elim
end
end Dn


namespace Dn
open PySem L2
namespace D
end D
section
variable {Γ : Pg} {n : Nat} {c fa : Nat → Addr} {G : Fr} {N : List Str} {sc scope : Scope} {X : Cx} {κ : Cn} {cs : CS}
variable {a b e d tg iter tg1 iter1 elt : Expr} {da db dd de : DE} {pos p : Pos} {es : List Expr} {ds : DEs}
end
end Dn


namespace Dn
open PySem L2
section
variable {Γ : Pg} {n : Nat} {c fa : Nat → Addr} {G : Fr} {N : List Str} {sc scope : Scope} {X : Cx} {κ : Cn} {cs : CS}
variable {a b e d tg iter tg1 iter1 elt : Expr} {da db dd de : DE} {pos p : Pos} {es : List Expr} {ds : DEs}
end
end Dn


namespace PySem.W
open PySem PySem.Calls PyProof.Rows PySem.SeqAt
def pkOf : PyData → Int
  | .tuple (.int i :: _) => i
  | _ => 0
structure KeyP (ds : List PyData) : Prop where
  two : ∀ d, d ∈ ds → ∃ i x, d = .tuple [.int i, x] ∧ alike x x = true
  nd : (ds.map pkOf).Nodup
theorem KeyP.one {ds : List PyData} (k : KeyP ds) {d e : PyData} (hd : d ∈ ds) (he : e ∈ ds) (h : pkOf d = pkOf e) : d = e := by
  have nd := k.nd
  clear k
  induction ds with
  | nil => cases hd
  | cons a ds ih =>
    rw [List.map_cons, List.nodup_cons] at nd
    rcases List.mem_cons.mp hd with r1 | r1 <;> rcases List.mem_cons.mp he with r2 | r2
    · rw [r1, r2]
    · exact absurd (List.mem_map.mpr ⟨e, r2, by rw [← h, r1]⟩) nd.1
    · exact absurd (List.mem_map.mpr ⟨d, r1, by rw [h, r2]⟩) nd.1
    · exact ih r1 r2 nd.2
theorem pk_unique {h : Heap} {v : Value} {i j : Int} {x y : PyData} {as bs : List Addr} (ra : Reads h v (.tuple [.int i, x]) as) (rb : Reads h v (.tuple [.int j, y]) bs) : i = j := by
  cases ra with
  | @tuple l o vs n _ _ h1 h2 h3 h4 =>
    cases rb with
    | @tuple _ o' vs' n' _ _ k1 k2 k3 k4 =>
      obtain rfl : o = o' := Option.some.inj (h1.symm.trans k1)
      rw [h3] at k3
      cases k3
      generalize vs.toList = L at h4 k4
      cases h4 with
      | cons r1 _ =>
        cases k4 with
        | cons r2 _ =>
          cases r1
          cases r2
          rfl
noncomputable def pkKind (h : Heap) (ds : List PyData) : PyProof.Rows.KeyKind where
  toKeyOrd := listOrd itemOrd
  keyOf v := open Classical in if q : ∃ d, d ∈ ds ∧ ∃ as, Reads h v d as then some (keyToks (.int (pkOf q.choose))) else none
  dflt := ([] : List (Int ⊕ List Nat))
theorem pkKind_some {h : Heap} {ds : List PyData} (k : KeyP ds) {v : Value} {d : PyData} {as : List Addr} (hd : d ∈ ds) (r : Reads h v d as) : (pkKind h ds).keyOf v = some (keyToks (.int (pkOf d))) := by
  have q : ∃ d, d ∈ ds ∧ ∃ as, Reads h v d as := ⟨d, hd, as, r⟩
  have e : (pkKind h ds).keyOf v = some (keyToks (.int (pkOf q.choose))) := by
    show (open Classical in if q : ∃ d, d ∈ ds ∧ ∃ as, Reads h v d as then some (keyToks (.int (pkOf q.choose))) else none) = _
    rw [dif_pos q]
  obtain ⟨h1, as', h2⟩ := q.choose_spec
  generalize q.choose = c at e h1 h2
  obtain ⟨i, x, rfl, _⟩ := k.two c h1
  obtain ⟨j, y, rfl, _⟩ := k.two d hd
  rw [e, show pkOf (.tuple [.int i, x]) = pkOf (.tuple [.int j, y]) from pk_unique h2 r]
section
variable {prog : Program} {w : World} {A : Around} {E : Value → Shared → Prop} {s : Shared}
end
end PySem.W
namespace Dn
open PySem L2
open PySem.W (alike alikeAll dataLt dataLe dataLt_int EachIs AllAlike Sortable SortsAt copyHeap sortingHeap copyHeap_at sorting_copy_old list_sort_vals sortVals sortVals_each sortVals_length each_map bound_map sort_maps pkOf KeyP pkKind pkKind_some each_mem sort_unique)
open PyProof.Rows (sortedAll collect_list entry_proto_collect' entry_list_iadd' listItems_at listUpdate_at get?_update_seq seqObj size_push' kind_sorted plain_sorted entry_sorted args_sorted1 args_list_sort slot_list_sort entry_list_sort)
namespace O
end O
section
variable {prog : Program} {w : World} {A : Around} {E : Value → Shared → Prop} {s : Shared}
end

section
variable {Γ : Pg} {n : Nat} {c fa : Nat → Addr} {G : Fr} {N : List Str} {sc : Scope} {X : Cx} {κ : Cn} {cs : CS}
variable {a b e d : Expr} {da db dd : DE} {pos p : Pos} {es : List Expr} {ds : DEs}
end
end Dn


namespace Dn
open PySem L2 PyProof.Rows
def bestOf : Option Int → List Int → Option Int
  | none, [] => none
  | none, x :: xs => some (greatest x xs)
  | some z, xs => some (greatest z xs)
def bestVs : Option (Int × Tok) → Array Value
  | none => #[]
  | some p => #[.int p.1 p.2, .int p.1 p.2]
section
variable {prog : Program} {w : World} {A : Around} {R : Result → Shared → Prop} {I : Addr} {fp wr : List Addr} {n : Nat} {P : Nat → Value → Prop} {St : Nat → Heap → Prop}
theorem mx_args (a d : Value) : argsOk "max" ⟨[a], [(Str.ofString "default", d)]⟩ := by unfold argsOk; kernel_rfl
theorem mx_loop (W : Walks prog w A.in1 I fp wr n P St) (val : Nat → Int) (hval : ∀ i v, P i v → ∃ t, v = .int (val i) t) (Z : Addr) (away : Z ∉ fp) (dv : Value) :
    ∀ (k j : Nat) (s : Shared) (top : Option (Int × Tok)) (c : Nat), n = j + k → St j s.heap → s.heap.get? Z = some { cls := .type "list", dict := none, data := .seq (bestVs top) c, slots := #[] } →
      (∀ r g u, (∀ b o, b ∉ wr → b ≠ Z → s.heap.get? b = some o → g.get? b = some o) → (match bestOf (top.map (·.1)) ((List.range' j k).map val) with | some z => ∃ t, r = Value.int z t | none => r = dv) → R (.ok (.ret r)) { s with heap := g, toks := u }) →
      codeAny (model prog w) A (.builtin "max.loop" ⟨[.ref I, .none, .ref Z], [(("default" : Str), dv)]⟩) R s := by
  have zw : Z ∉ wr := fun q => away (W.sub _ q)
  have nm : (toString "max" ++ toString ".loop" : String) = "max.loop" := by decide
  have frm : ∀ {i : Nat} {g : Heap} {f : Obj → Obj}, St i g → St i (g.update Z f) := fun {i g f} q => W.frame _ _ _ q fun b hb o e =>
    (Heap.get?_update_other _ _ (fun e2 : Z = b => away (e2 ▸ hb))).trans e
  have new : ∀ {g : Heap} {xs : Array Value} {c : Nat} {z : Int} {t : Tok}, g.get? Z = some { cls := .type "list", dict := none, data := .seq xs c } → ∃ c', (g.update Z (Obj.mapSeq fun _ => #[Value.int z t, Value.int z t])).get? Z = some { cls := .type "list", dict := none, data := .seq (bestVs (some (z, t))) c' } :=
    fun {g xs c z t} e => ⟨_, Heap.get?_update_self (Obj.mapSeq fun _ => #[Value.int z t, Value.int z t]) e rfl⟩
  intro k
  induction k with
  | zero =>
    intro j s top c hn hst hZ hR
    refine codeAny_builtin PySem.F.entry_max_loop ?_
    rw [Around.under_plainId PySem.F.plain_max_loop _]
    refine wpAny_bind (wpAny_seqItems hZ rfl ?_)
    refine wpAny_bind (wpAny_tryCatch (W.done s _ _ (by rw [hn]; exact hst) fun g u kp => ?_))
    cases top with
    | none =>
      refine wpAny_bind (wpAny_rule ?_)
      exact wpAny_pure (hR dv g u (fun b o h1 _ e => kp b o h1 e) rfl)
    | some p =>
      obtain ⟨z, tz⟩ := p
      have hZ2 : g.get? Z = some { cls := .type "list", dict := none, data := .seq #[Value.int z tz, Value.int z tz] c } := kp Z _ zw hZ
      refine wpAny_bind (wpAny_updateSeq hZ2 rfl (wpAny_bind (wpAny_letGo (wpAny_pure ?_))))
      exact hR _ _ u (fun b o h1 h2 e => (Heap.get?_update_other _ _ (Ne.symm h2)).trans (kp b o h1 e)) ⟨tz, rfl⟩
  | succ k ih =>
    intro j s top c hn hst hZ hR
    refine codeAny_builtin PySem.F.entry_max_loop ?_
    rw [Around.under_plainId PySem.F.plain_max_loop _]
    refine wpAny_bind (wpAny_seqItems hZ rfl ?_)
    refine wpAny_bind (wpAny_tryCatch (W.item j s _ _ (by omega) hst fun v g u hp hst2 kp => ?_))
    obtain ⟨t, rfl⟩ := hval _ _ hp
    have ran : (List.range' j (k + 1)).map val = val j :: (List.range' (j + 1) k).map val := by rw [List.range'_succ, List.map_cons]
    rw [ran] at hR
    cases top with
    | none =>
      have hZ2 : g.get? Z = some { cls := .type "list", dict := none, data := .seq #[] c } := kp Z _ zw hZ
      refine wpAny_bind (m := updateSeq Z fun _ => #[Value.int (val j) t, Value.int (val j) t]) (wpAny_updateSeq hZ2 rfl ?_)
      rw [nm]
      refine wpAny_pure ⟨plainId_quiet PySem.F.plain_max_loop _, ih (j + 1) _ (some (val j, t)) _ (by omega) (frm hst2) (new hZ2).choose_spec fun r g2 u2 kp2 hr => ?_⟩
      exact hR r g2 u2 (fun b o h1 h2 e => kp2 b o h1 h2 ((Heap.get?_update_other _ _ (Ne.symm h2)).trans (kp b o h1 e))) hr
    | some p =>
      obtain ⟨z, tz⟩ := p
      have hZ2 : g.get? Z = some { cls := .type "list", dict := none, data := .seq #[Value.int z tz, Value.int z tz] c } := kp Z _ zw hZ
      refine wpAny_bind (m := tryCatch (holding [Value.int (val j) t, Value.int (val j) t] (richCompare .Gt (Value.int (val j) t) (Value.int z tz) >>= _)) _) (wpAny_tryCatch (wpAny_holding (wpAny_bind ((CmpOf.ints_gt (P := fun i v => ∃ t, v = Value.int (if i = 0 then val j else z) t) (fun i => if i = 0 then val j else z) (fun _ _ q => q)) 0 1 _ _ _ _ _ ⟨t, rfl⟩ ⟨tz, rfl⟩ ?_))))
      refine wpAny_bind (wpAny_holding (wpAny_truthy_bool (wpAny_bind (wpAny_letGo (wpAny_pure ?_)))))
      by_cases hb : z < val j
      · have hb' : decide ((if (0 : Nat) = 0 then val j else z) > (if (1 : Nat) = 0 then val j else z)) = true := by simp [hb]
        rw [if_pos hb']
        refine wpAny_bind (wpAny_updateSeq hZ2 rfl (wpAny_bind (wpAny_letGo ?_)))
        rw [nm]
        refine wpAny_pure ⟨plainId_quiet PySem.F.plain_max_loop _, ih (j + 1) _ (some (val j, t)) _ (by omega) (frm hst2) (new hZ2).choose_spec fun r g2 u2 kp2 hr => ?_⟩
        exact hR r g2 u2 (fun b o h1 h2 e => kp2 b o h1 h2 ((Heap.get?_update_other _ _ (Ne.symm h2)).trans (kp b o h1 e))) (by simpa [bestOf, greatest, hb] using hr)
      · have hb' : decide ((if (0 : Nat) = 0 then val j else z) > (if (1 : Nat) = 0 then val j else z)) = false := by simp [hb]
        rw [if_neg (fun q => Bool.false_ne_true (hb'.symm.trans q))]
        refine wpAny_bind (wpAny_letGo ?_)
        rw [nm]
        refine wpAny_pure ⟨plainId_quiet PySem.F.plain_max_loop _, ih (j + 1) _ (some (z, tz)) c (by omega) hst2 hZ2 fun r g2 u2 kp2 hr => ?_⟩
        exact hR r g2 u2 (fun b o h1 h2 e => kp2 b o h1 h2 (kp b o h1 e)) (by simpa [bestOf, greatest, hb] using hr)
end
section
variable {prog : Program} {w : World} {A : Around} {E : Value → Shared → Prop} {s : Shared}
theorem max_given {l : Addr} {xs : Array (Int × Tok)} {dv : Value} {Q : Value → Shared → Prop} (hh : A.handled = none) (hl : s.heap.IsList l (intItems xs))
    (h : ∀ r g u, (∀ b o, s.heap.get? b = some o → g.get? b = some o) → (match bestOf none ((List.range xs.size).map (numAt xs)) with | some z => ∃ t, r = Value.int z t | none => r = dv) → Q r { s with heap := g, toks := u }) :
    wpAny (model prog w) A (call (.builtin "max") [.ref l] [(Str.ofString "default", dv)]) Q E s := by
  have nm : (toString "max" ++ toString ".loop" : String) = "max.loop" := by decide
  refine kmk_tree PySem.F.kind_max PySem.F.plain_max PySem.F.entry_max (mx_args _ _) ?_
  show wpAny _ A.in1 (Builtin.Builtins.bindParams "max" ["key", "default"] 0 ⟨[], [(Str.ofString "default", dv)]⟩ >>= _) _ _ s
  refine wpAny_bind (wpAny_of_eq (show Builtin.Builtins.bindParams "max" ["key", "default"] 0 ⟨[], [(Str.ofString "default", dv)]⟩ = pure [none, some dv] by kernel_rfl) ?_)
  refine wpAny_bind (wpAny_pure (wpAny_bind (iter_intList hl fun s2 e st below ne => ?_)))
  subst e
  refine wpAny_bind (wpAny_newObj_type ?_)
  rw [nm]
  have W := Walks.list (prog := prog) (w := w) (A := A.in1) hh s.heap.objs.size l ne (intItems xs)
  have sz : (intItems xs).size = xs.size := by simp [intItems]
  rw [sz] at W
  refine wpAny_pure ⟨plainId_quiet PySem.F.plain_max_loop _, mx_loop W (numAt xs) (fun _ _ => intItems_at) _ (fun hm => Nat.lt_irrefl _ (below _ hm)) dv xs.size 0 _ none 0 (by omega) (W.frame _ _ _ st fun b _ o e => Heap.get?_push_of_some _ e) (Heap.get?_push_size _ rfl) fun r g u kp hr => ?_⟩
  refine h r g u (old_kept fun b o hb e => kp b o hb (Nat.ne_of_lt (Heap.lt_size e)) (Heap.get?_push_of_some _ e)) ?_
  rwa [List.range_eq_range']
end
def rMaxK (K : PySem.W.Frag) : List V → List V → Hp → VK → Prop := fun vs zs H Q => ∃ (a : Addr) (ns : List Int) (d : V), vs = [.ref a] ∧ zs = [d] ∧ SqL K H a (ns.map V.int) ∧ Q (match bestOf none ns with | some z => .int z | none => d) H
theorem cr_maxK {X : Cx} (hc : X.calm = true) : CallRK X (.builtin "max") [Str.ofString "default"] (rMaxK X.K) := by
  intro pins s σ H vs zs us ws Q I r rz h
  obtain ⟨a, ns, d, rfl, rfl, hs, q⟩ := h
  obtain rfl := Vals.ref1 r
  obtain ⟨w1, rfl, rw1⟩ := vals1 rz
  obtain ⟨its, rv, hl, _⟩ := I.list hs
  obtain ⟨xs, e⟩ := rv.ints.allInts.items
  have hn : numsOf (intItems xs).toList = ns := by rw [← e]; exact rv.ints.numsOf
  rw [nums_intItems] at hn
  rw [e] at hl
  have hl : s.heap.IsList a (intItems xs) := hl.isList
  refine max_given (I.ok.hd hc) hl fun v g u kp hr => ?_
  have er : (List.range xs.size).map (numAt xs) = ns := by
    rw [← hn]
    apply List.ext_getElem (by simp)
    intro i h1 h2
    have : i < xs.size := by simpa using h1
    simp [numAt, this]
  rw [er] at hr
  cases hb : bestOf none ns with
  | none =>
    rw [hb] at hr q
    subst hr
    exact ⟨d, H, I.kept kp, rw1, q⟩
  | some z =>
    rw [hb] at hr q
    obtain ⟨t, rfl⟩ := hr
    exact ⟨.int z, H, I.kept kp, ⟨t, rfl⟩, q⟩
namespace O
def maxD (x d : PV) : Option PV := match x, d with
  | .lst xs, .int z => (intsP xs).map fun is => .int ((bestOf none is).getD z)
  | _, _ => none
end O
section
variable {Γ : Pg} {n : Nat} {c fa : Nat → Addr} {G : Fr} {N : List Str} {sc : Scope} {X : Cx} {κ : Cn} {cs : CS}
variable {a b e d : Expr} {da db dd : DE} {pos p kp : Pos}
theorem SE.maxD (hx : okB Γ sc ("max" : Str) = true) (ha : SE Γ N sc a da) (hb : SE Γ N sc b db) (hst : ∀ env, starEach [a] env = (false, eval a env) :: starEach [] env := by intro _; rfl)
    (hkw : ∀ env, (backToKw pos (keywordEach [⟨some "default", b, kp⟩] env)).map (·.1) = [some (Str.ofString "default")] := by intro _; rfl) : SE Γ N sc (.Call (.Name ("max" : Str) p) [a] [⟨some "default", b, kp⟩] pos) (D.op2 O.maxD da db) := fun n c fa G X g => by
  obtain ⟨g1, g2, g3, g4⟩ := okB_gl g hx
  refine (pe_callBK (cr_maxK g.calm) g1 g2 (by decide +kernel) (pa_cons (ha n c fa G X g) pa_nil (hst _)) (pk_cons (hb n c fa G X g) pk_nil) g3 g4 (by rw [hst]; rfl) (by rw [hst]; rfl) rfl rfl rfl).imp ?_
  rintro σ H Q ⟨ρ, st, σp, A, R, o⟩
  refine tE_bind A R o fun v st1 ρ1 H1 u e1 A1 R1 ru o1 => ?_
  refine tE_bind A1 R1 o1 fun w st2 ρ2 H2 z e2 A2 R2 rz o2 => ?_
  obtain ⟨res, ef, k⟩ := o2.of
  have rp := RR.of A2.wd (ru.mono e2.mono)
  have rq := RR.of A2.wd rz
  unfold O.maxD at ef
  split at ef
  · rename_i xs zz ex ez
    obtain ⟨is, hi, rfl⟩ := Option.map_eq_some_iff.mp ef
    rw [ex] at rp
    rw [ez] at rq
    obtain ⟨l, us, rfl, h1, r1⟩ := rr_lst rp
    have e := intsP_eq hi
    subst e
    have e2 := rvs_intsX r1
    subst e2
    have ed := rr_int rq
    refine ⟨l, is, z, rfl, rfl, SqL.of h1, k ρ2 H2 Ext.refl A2 _ ?_⟩
    cases hbo : bestOf none is with
    | none => simpa only [RV, Option.getD_none] using ed
    | some y => simp only [RV, Option.getD_some]
  · cases ef
end
end Dn


namespace L2
open PySem
section
variable {X : Cx}
end
end L2
namespace Dn
open PySem L2
namespace O
end O
section
variable {Γ : Pg} {n : Nat} {c fa : Nat → Addr} {G : Fr} {N : List Str} {sc : Scope} {X : Cx} {κ : Cn} {cs : CS}
variable {a b e d : Expr} {da db dd : DE} {pos p : Pos}
end
end Dn


namespace Dn
open PySem L2
namespace O
def strsP : List PV → Option (List Str)
  | [] => some []
  | .str x :: xs => (strsP xs).map (x :: ·)
  | _ => none
def joinB (a : Str) (xs : List PV) : Option PV := (strsP xs).bind fun ys => if (ys.map (·.length)).sum + ys.length * a.length ≤ 1000000 then some (.str (Txt.join a ys)) else none
def join : PV → PV → Option PV
  | .str a, .lst xs => joinB a xs
  | .str a, .tup xs => joinB a xs
  | _, _ => none
def split : PV → PV → Option PV
  | .str a, .str b => if (b.length == 0) = false ∧ a.length ≤ 1000000 then some (.lst ((Txt.split a b).map .str)) else none
  | _, _ => none
end O
namespace D
def strM (f : PV → PV → Option PV) (o e : DE) : DE := fun c σ st => (o c σ st).bind fun x st => match x with
  | .str a => (e c σ st).bind fun y st => .of st (f (.str a) (deref st y))
  | _ => .bad
end D
section
variable {Γ : Pg} {n : Nat} {c fa : Nat → Addr} {G : Fr} {N : List Str} {sc : Scope} {X : Cx} {κ : Cn} {cs : CS}
variable {a b e d : Expr} {da db dd : DE} {pos p : Pos}
theorem strs_rv {F : Addr → Prop} {ρ : List Addr} {H : Hp} : ∀ {ps : List PV} {xs : List V} {bs : List Str}, O.strsP ps = some bs → RVs κ F ρ H ps xs → xs = bs.map V.str
  | [], xs, bs, h, r => by
    simp only [O.strsP, Option.some.injEq] at h
    subst h
    simp only [RVs] at r
    rw [r]
    rfl
  | p :: ps, xs, bs, h, r => by
    cases p <;> simp only [O.strsP, reduceCtorEq] at h
    obtain ⟨t, e, rfl⟩ := Option.map_eq_some_iff.mp h
    simp only [RVs] at r
    obtain ⟨w, r', rfl, h1, h2⟩ := r
    rw [rv_str h1, strs_rv e h2]
    rfl
theorem rvs_strs {F : Addr → Prop} {ρ : List Addr} {H : Hp} : ∀ ys : List Str, RVs κ F ρ H (ys.map .str) (ys.map V.str)
  | [] => RVs.nil
  | x :: xs => RVs.cons (by simp only [RV]) (rvs_strs xs)
theorem SE.join {apos : Pos} (ha : SE Γ N sc a da) (hb : SE Γ N sc b db) (hm : MRows a ("join" : Str) apos b [] pos) : SE Γ N sc (.Call (.Attribute a ("join" : Str) apos) [b] [] pos) (D.strM O.join da db) := fun n c fa G X g => by
  refine (pe_join (ha n c fa G X g) (hb n c fa G X g) (hm.st _) (hm.base _) hm.line).imp ?_
  rintro σ H Q ⟨ρ, st, σp, A, R, o⟩
  refine tE_bind A R o fun v st1 ρ1 H1 u e1 A1 R1 ru o1 => ?_
  split at o1
  · rename_i z
    have es := rv_str ru
    subst es
    refine ⟨⟨z, rfl⟩, tE_bind A1 R1 o1 fun w st2 ρ2 H2 y e2 A2 R2 rz o2 => ?_⟩
    obtain ⟨res, ef, k⟩ := o2.of
    have rd := RR.of A2.wd rz
    have l63 := sizeLine_eq
    unfold O.join at ef
    split at ef
    · rename_i a' xs ea eq
      cases ea
      rw [eq] at rd
      obtain ⟨p', us, rfl, h1, r1⟩ := rr_lst rd
      unfold O.joinB at ef
      obtain ⟨ys, hy, ef⟩ := Option.bind_eq_some_iff.mp ef
      split at ef
      · rename_i hl
        cases ef
        have := strs_rv hy r1
        subst this
        exact ⟨z, p', ys, rfl, rfl, .inl (SqL.of h1), by omega, k ρ2 H2 Ext.refl A2 _ (by simp only [RV])⟩
      · cases ef
    · rename_i a' xs ea eq
      cases ea
      rw [eq] at rd
      obtain ⟨p', us, rfl, h1, r1⟩ := rr_tup rd
      unfold O.joinB at ef
      obtain ⟨ys, hy, ef⟩ := Option.bind_eq_some_iff.mp ef
      split at ef
      · rename_i hl
        cases ef
        have := strs_rv hy r1
        subst this
        exact ⟨z, p', ys, rfl, rfl, .inr h1, by omega, k ρ2 H2 Ext.refl A2 _ (by simp only [RV])⟩
      · cases ef
    · cases ef
  · exact o1.elim
theorem SE.split {apos : Pos} (ha : SE Γ N sc a da) (hb : SE Γ N sc b db) (hm : MRows a ("split" : Str) apos b [] pos) : SE Γ N sc (.Call (.Attribute a ("split" : Str) apos) [b] [] pos) (D.strM O.split da db) := fun n c fa G X g => by
  refine (pe_split (ha n c fa G X g) (hb n c fa G X g) (hm.st _) (hm.base _) hm.line).imp ?_
  rintro σ H Q ⟨ρ, st, σp, A, R, o⟩
  refine tE_bind A R o fun v st1 ρ1 H1 u e1 A1 R1 ru o1 => ?_
  split at o1
  · rename_i z
    have es := rv_str ru
    subst es
    refine ⟨⟨z, rfl⟩, tE_bind A1 R1 o1 fun w st2 ρ2 H2 y e2 A2 R2 rz o2 => ?_⟩
    obtain ⟨res, ef, k⟩ := o2.of
    have rd := RR.of A2.wd rz
    have l63 := sizeLine_eq
    unfold O.split at ef
    split at ef
    · rename_i a' b' ea eq
      cases ea
      rw [eq] at rd
      split at ef
      · rename_i hl
        cases ef
        exact ⟨z, b', rfl, by rw [rr_str rd], hl.1, by omega, fun q hq => newL A2 (fun ρ' H' u e A r => k ρ' H' e A u r) (rvs_strs _) hq⟩
      · cases ef
    · cases ef
  · exact o1.elim
theorem SO.no : SO Γ N sc none none := trivial
theorem SO.yes (h : SE Γ N sc a da) : SO Γ N sc (some a) (some da) := h
end
end Dn


namespace Dn
open PySem L2
end Dn

namespace Dn
def c_NoArm : Nat := 1
def c_NoPath : Nat := 2
def c_NoThing : Nat := 3
def c_NoStanding : Nat := 4
def c_NoFalls : Nat := 5
def c_NoDrops : Nat := 6
def c_NoPlace : Nat := 7
def c_NotNow : Nat := 8
def c_NoPart : Nat := 9
def c_NoRow : Nat := 10
def c_NoDeed : Nat := 11
def c_NoText : Nat := 12
def c_NoLine : Nat := 13
def c_TooMany : Nat := 14
def c_Seen : Nat := 15
def i_is_whole : Nat := 0
def i_is_within : Nat := 1
def i_is_long : Nat := 2
def i_rises : Nat := 3
def i_falls_not : Nat := 4
def i_is_arm_by : Nat := 5
def i_is_weight : Nat := 6
def i_arms_in : Nat := 7
def i_deep_of : Nat := 8
def i_is_arm : Nat := 9
def i_need_arm : Nat := 10
def i_paths_by : Nat := 11
def i_paths : Nat := 12
def i_is_path : Nat := 13
def i_need_path : Nat := 14
def i_arm_by : Nat := 15
def i_arm_at : Nat := 16
def i_mirrored_by : Nat := 17
def i_mirrored : Nat := 18
def i_put_by : Nat := 19
def i_put : Nat := 20
def i_is_bead : Nat := 21
def i_are_beads : Nat := 22
def i_is_standing_by : Nat := 23
def i_is_standing : Nat := 24
def i_need_standing : Nat := 25
def i_bare : Nat := 26
def i_Seenu__initu_ : Nat := 27
def i_Seen_look : Nat := 28
def i_word_by : Nat := 29
def i_words_by : Nat := 30
def i_need_place_of : Nat := 31
def i_load : Nat := 32
def i_tilt : Nat := 33
def i_word : Nat := 34
def i__law_cell_at : Nat := 35
def i__law_pen : Nat := 36
def i__law_draw : Nat := 37
def i__law_kind : Nat := 38
def i__law_arms_right : Nat := 39
def i__law_beads_right : Nat := 40
def i__law_errors_right : Nat := 41
def i_law : Nat := 42
def kdL : List (Nat × PySem.Str) := []
def i_tm : Nat := 999
def b_is_whole : DS :=
  (D.ret (D.and (D.op1 O.isInt (D.var 0)) (D.not (D.op1 O.isBool (D.var 0)))))
def b_is_within : DS :=
  (D.ret (D.and (D.call i_is_whole (D.cons (D.var 0) D.nil)) (D.chain O.le O.le (D.var 1) (D.var 0) (D.var 2))))
def b_is_long : DS :=
  (D.ret (D.and (D.op1 O.isTup (D.var 0)) (D.chain O.le O.le (D.var 1) (D.op1 O.len (D.var 0)) (D.var 2))))
def b_rises : DS :=
  (D.ret (D.op1 O.all (D.lc [1, 2] (D.zip (D.var 0) (D.slice (D.var 0) (some (D.c (.int 1))) none)) (D.tt [(D.tn 1), (D.tn 2)]) [] (D.op2 O.«lt» (D.var 1) (D.var 2)))))
def b_falls_not : DS :=
  (D.ret (D.op1 O.all (D.lc [1, 2] (D.zip (D.var 0) (D.slice (D.var 0) (some (D.c (.int 1))) none)) (D.tt [(D.tn 1), (D.tn 2)]) [] (D.op2 O.«le» (D.var 1) (D.var 2)))))
def b_is_arm_by : DS :=
  (D.seq (D.cond (D.or (D.op2 O.«eq» (D.var 1) (D.c (.int 0))) (D.not (D.call i_is_long (D.cons (D.var 0) (D.cons (D.c (.int 5)) (D.cons (D.c (.int 5)) D.nil)))))) (D.ret (D.c (.bl false))) D.pass)
  (D.seq (D.asg (D.tt [(D.tn 2), (D.tn 3), (D.tn 4), (D.tn 5), (D.tn 6)]) (D.var 0))
  (D.seq (D.cond (D.or (D.not (D.call i_is_within (D.cons (D.var 2) (D.cons (D.c (.int 1)) (D.cons (D.c (.int 3)) D.nil))))) (D.not (D.call i_is_within (D.cons (D.var 3) (D.cons (D.c (.int 1)) (D.cons (D.c (.int 3)) D.nil)))))) (D.ret (D.c (.bl false))) D.pass)
  (D.seq (D.cond (D.or (D.not (D.call i_is_within (D.cons (D.var 4) (D.cons (D.c (.int 0)) (D.cons (D.c (.int 9)) D.nil))))) (D.or (D.not (D.call i_is_within (D.cons (D.var 5) (D.cons (D.c (.int 1)) (D.cons (D.c (.int 3)) D.nil))))) (D.not (D.op1 O.isTup (D.var 6))))) (D.ret (D.c (.bl false))) D.pass)
  (D.seq (D.cond (D.not (D.op1 O.all (D.lc [7] (D.walk (D.var 6)) (D.tn 7) [] (D.and (D.call i_is_long (D.cons (D.var 7) (D.cons (D.c (.int 2)) (D.cons (D.c (.int 2)) D.nil)))) (D.call i_is_within (D.cons (D.op2 O.item (D.var 7) (D.c (.int 0))) (D.cons (D.op2 O.sub (D.c (.int 0)) (D.var 2)) (D.cons (D.var 3) D.nil)))))))) (D.ret (D.c (.bl false))) D.pass)
  (D.seq (D.cond (D.not (D.call i_rises (D.cons (D.lc [8, 9] (D.walk (D.var 6)) (D.tt [(D.tn 8), (D.tn 9)]) [] (D.var 8)) D.nil))) (D.ret (D.c (.bl false))) D.pass)
  (D.ret (D.op1 O.all (D.lc [8, 9] (D.walk (D.var 6)) (D.tt [(D.tn 8), (D.tn 9)]) [] (D.or (D.call i_is_weight (D.cons (D.var 9) D.nil)) (D.call i_is_arm_by (D.cons (D.var 9) (D.cons (D.op2 O.sub (D.var 1) (D.c (.int 1))) D.nil)))))))))))))
def b_is_weight : DS :=
  (D.ret (D.call i_is_within (D.cons (D.var 0) (D.cons (D.c (.int 1)) (D.cons (D.c (.int 9)) D.nil)))))
def b_arms_in : DS :=
  (D.ret (D.op2 O.add (D.c (.int 1)) (D.op1 O.sum (D.lc [1, 2] (D.walk (D.op2 O.item (D.var 0) (D.c (.int 4)))) (D.tt [(D.tn 1), (D.tn 2)]) [(D.op1 O.isTup (D.var 2))] (D.call i_arms_in (D.cons (D.var 2) D.nil))))))
def b_deep_of : DS :=
  (D.ret (D.op2 O.add (D.c (.int 1)) (D.op2 O.maxD (D.lc [1, 2] (D.walk (D.op2 O.item (D.var 0) (D.c (.int 4)))) (D.tt [(D.tn 1), (D.tn 2)]) [(D.op1 O.isTup (D.var 2))] (D.call i_deep_of (D.cons (D.var 2) D.nil))) (D.c (.int 0)))))
def b_is_arm : DS :=
  (D.ret (D.and (D.call i_is_arm_by (D.cons (D.var 0) (D.cons (D.c (.int 3)) D.nil))) (D.op2 O.«le» (D.call i_arms_in (D.cons (D.var 0) D.nil)) (D.c (.int 4)))))
def b_need_arm : DS :=
  (D.cond (D.not (D.call i_is_arm (D.cons (D.var 0) D.nil))) D.stuck D.pass)
def b_paths_by : DS :=
  (D.seq (D.asg (D.tn 1) (D.fresh (D.lst (D.cons (D.tup D.nil) D.nil))))
  (D.seq (D.for (D.tt [(D.tn 2), (D.tn 3)]) (D.walk (D.op2 O.item (D.var 0) (D.c (.int 4)))) (D.cond (D.op1 O.isTup (D.var 3)) (D.expr (D.extend (D.var 1) (D.lc [4] (D.walk (D.call i_paths_by (D.cons (D.var 3) D.nil))) (D.tn 4) [] (D.op2 O.add (D.tup (D.cons (D.var 2) D.nil)) (D.var 4))))) D.pass))
  (D.ret (D.op1 O.tuple (D.var 1)))))
def b_paths : DS :=
  (D.seq (D.expr (D.call i_need_arm (D.cons (D.var 0) D.nil)))
  (D.ret (D.call i_paths_by (D.cons (D.var 0) D.nil))))
def b_is_path : DS :=
  (D.ret (D.and (D.op1 O.isTup (D.var 1)) (D.and (D.op1 O.all (D.lc [2] (D.walk (D.var 1)) (D.tn 2) [] (D.call i_is_whole (D.cons (D.var 2) D.nil)))) (D.op2 O.«in» (D.var 1) (D.call i_paths_by (D.cons (D.var 0) D.nil))))))
def b_need_path : DS :=
  (D.seq (D.expr (D.call i_need_arm (D.cons (D.var 0) D.nil)))
  (D.cond (D.not (D.call i_is_path (D.cons (D.var 0) (D.cons (D.var 1) D.nil)))) D.stuck D.pass))
def b_arm_by : DS :=
  (D.seq (D.asg (D.tn 2) (D.var 0))
  (D.seq (D.for (D.tn 3) (D.walk (D.var 1)) (D.asg (D.tn 2) (D.op2 O.item (D.op1 (O.dictOf false) (D.op1 O.list (D.op2 O.item (D.var 2) (D.c (.int 4))))) (D.var 3))))
  (D.ret (D.var 2))))
def b_arm_at : DS :=
  (D.seq (D.expr (D.call i_need_path (D.cons (D.var 0) (D.cons (D.var 1) D.nil))))
  (D.ret (D.call i_arm_by (D.cons (D.var 0) (D.cons (D.var 1) D.nil)))))
def b_mirrored_by : DS :=
  (D.seq (D.cond (D.not (D.op1 O.isTup (D.var 0))) (D.ret (D.var 0)) D.pass)
  (D.seq (D.asg (D.tt [(D.tn 1), (D.tn 2), (D.tn 3), (D.tn 4), (D.tn 5)]) (D.var 0))
  (D.ret (D.tup (D.cons (D.var 2) (D.cons (D.var 1) (D.cons (D.var 3) (D.cons (D.var 4) (D.cons (D.op1 O.tuple (D.lc [6, 7] (D.walk (D.op1 O.rev (D.var 5))) (D.tt [(D.tn 6), (D.tn 7)]) [] (D.tup (D.cons (D.op2 O.sub (D.c (.int 0)) (D.var 6)) (D.cons (D.call i_mirrored_by (D.cons (D.var 7) D.nil)) D.nil))))) D.nil)))))))))
def b_mirrored : DS :=
  (D.seq (D.expr (D.call i_need_arm (D.cons (D.var 0) D.nil)))
  (D.ret (D.call i_mirrored_by (D.cons (D.var 0) D.nil))))
def b_put_by : DS :=
  (D.seq (D.cond (D.op2 O.«eq» (D.var 1) (D.tup D.nil)) (D.ret (D.var 2)) D.pass)
  (D.seq (D.asg (D.tn 3) (D.lc [4, 5] (D.walk (D.op2 O.item (D.var 0) (D.c (.int 4)))) (D.tt [(D.tn 4), (D.tn 5)]) [] (D.tup (D.cons (D.var 4) (D.cons (D.ite (D.op2 O.«eq» (D.var 4) (D.op2 O.item (D.var 1) (D.c (.int 0)))) (D.call i_put_by (D.cons (D.var 5) (D.cons (D.slice (D.var 1) (some (D.c (.int 1))) none) (D.cons (D.var 2) D.nil)))) (D.var 5)) D.nil)))))
  (D.ret (D.op2 O.add (D.slice (D.var 0) none (some (D.c (.int 4)))) (D.tup (D.cons (D.op1 O.tuple (D.var 3)) D.nil))))))
def b_put : DS :=
  (D.seq (D.expr (D.call i_need_path (D.cons (D.var 0) (D.cons (D.var 1) D.nil))))
  (D.seq (D.cond (D.op2 O.«eq» (D.var 1) (D.tup D.nil)) D.stuck D.pass)
  (D.seq (D.cond (D.and (D.not (D.call i_is_weight (D.cons (D.var 2) D.nil))) (D.not (D.call i_is_arm (D.cons (D.var 2) D.nil)))) D.stuck D.pass)
  (D.seq (D.asg (D.tn 3) (D.call i_put_by (D.cons (D.var 0) (D.cons (D.var 1) (D.cons (D.var 2) D.nil)))))
  (D.seq (D.for (D.tt [(D.tn 4), (D.tn 5)]) (D.walk (D.tup (D.cons (D.tup (D.cons (D.call i_arms_in (D.cons (D.var 3) D.nil)) (D.cons (D.c (.int 4)) D.nil))) (D.cons (D.tup (D.cons (D.call i_deep_of (D.cons (D.var 3) D.nil)) (D.cons (D.c (.int 3)) D.nil))) D.nil)))) (D.cond (D.op2 O.«gt» (D.var 4) (D.var 5)) D.stuck D.pass))
  (D.ret (D.var 3)))))))
def b_is_bead : DS :=
  (D.ret (D.and (D.call i_is_long (D.cons (D.var 1) (D.cons (D.c (.int 2)) (D.cons (D.c (.int 2)) D.nil)))) (D.and (D.call i_is_within (D.cons (D.op2 O.item (D.var 1) (D.c (.int 0))) (D.cons (D.op2 O.sub (D.c (.int 0)) (D.op2 O.item (D.var 0) (D.c (.int 0)))) (D.cons (D.op2 O.item (D.var 0) (D.c (.int 1))) D.nil)))) (D.call i_is_within (D.cons (D.op2 O.item (D.var 1) (D.c (.int 1))) (D.cons (D.c (.int 1)) (D.cons (D.c (.int 3)) D.nil)))))))
def b_are_beads : DS :=
  (D.ret (D.and (D.call i_is_long (D.cons (D.var 1) (D.cons (D.c (.int 0)) (D.cons (D.op2 O.item (D.var 0) (D.c (.int 3))) D.nil)))) (D.and (D.op1 O.all (D.lc [2] (D.walk (D.var 1)) (D.tn 2) [] (D.call i_is_bead (D.cons (D.var 0) (D.cons (D.var 2) D.nil))))) (D.call i_falls_not (D.cons (D.var 1) D.nil)))))
def b_is_standing_by : DS :=
  (D.seq (D.asg (D.tn 2) (D.call i_paths_by (D.cons (D.var 0) D.nil)))
  (D.seq (D.cond (D.not (D.call i_is_long (D.cons (D.var 1) (D.cons (D.op1 O.len (D.var 2)) (D.cons (D.op1 O.len (D.var 2)) D.nil))))) (D.ret (D.c (.bl false))) D.pass)
  (D.ret (D.op1 O.all (D.lc [3, 4] (D.zip (D.var 2) (D.var 1)) (D.tt [(D.tn 3), (D.tn 4)]) [] (D.call i_are_beads (D.cons (D.call i_arm_by (D.cons (D.var 0) (D.cons (D.var 3) D.nil))) (D.cons (D.var 4) D.nil))))))))
def b_is_standing : DS :=
  (D.seq (D.expr (D.call i_need_arm (D.cons (D.var 0) D.nil)))
  (D.ret (D.call i_is_standing_by (D.cons (D.var 0) (D.cons (D.var 1) D.nil)))))
def b_need_standing : DS :=
  (D.seq (D.expr (D.call i_need_arm (D.cons (D.var 0) D.nil)))
  (D.cond (D.not (D.call i_is_standing_by (D.cons (D.var 0) (D.cons (D.var 1) D.nil)))) D.stuck D.pass))
def b_bare : DS :=
  (D.seq (D.expr (D.call i_need_arm (D.cons (D.var 0) D.nil)))
  (D.ret (D.op2 O.mulx (D.tup (D.cons (D.tup D.nil) D.nil)) (D.op1 O.len (D.call i_paths_by (D.cons (D.var 0) D.nil))))))
def b_Seenu__initu_ : DS :=
  (D.seq (D.asg (D.tt [(D.tattr c_Seen (D.var 0) (⟨#[108, 111, 97, 100, 115]⟩ : PySem.Str)), (D.tattr c_Seen (D.var 0) (⟨#[116, 105, 108, 116, 115]⟩ : PySem.Str))]) (D.tup (D.cons (D.fresh (D.dict true [])) (D.cons (D.fresh (D.dict true [])) D.nil))))
  (D.seq (D.asg (D.tattr c_Seen (D.var 0) (⟨#[98, 101, 97, 100, 115]⟩ : PySem.Str)) (D.op1 (O.dictOf true) (D.lzip (D.call i_paths_by (D.cons (D.var 1) D.nil)) (D.var 2))))
  (D.expr (D.meth c_Seen i_Seen_look (⟨#[108, 111, 111, 107]⟩ : PySem.Str) (D.var 0) (D.cons (D.var 1) (D.cons (D.tup D.nil) D.nil))))))
def b_Seen_look : DS :=
  (D.seq (D.asg (D.tn 3) (D.fresh (D.op1 O.list (D.op2 O.item (D.attr c_Seen (D.var 0) (⟨#[98, 101, 97, 100, 115]⟩ : PySem.Str)) (D.var 2)))))
  (D.seq (D.for (D.tt [(D.tn 4), (D.tn 5)]) (D.walk (D.op2 O.item (D.var 1) (D.c (.int 4)))) (D.expr (D.append (D.var 3) (D.tup (D.cons (D.var 4) (D.cons (D.ite (D.op1 O.isTup (D.var 5)) (D.meth c_Seen i_Seen_look (⟨#[108, 111, 111, 107]⟩ : PySem.Str) (D.var 0) (D.cons (D.var 5) (D.cons (D.op2 O.add (D.var 2) (D.tup (D.cons (D.var 4) D.nil))) D.nil))) (D.var 5)) D.nil))))))
  (D.seq (D.asg (D.tsub (D.attr c_Seen (D.var 0) (⟨#[108, 111, 97, 100, 115]⟩ : PySem.Str)) (D.var 2)) (D.op1 O.sum (D.lc [4, 6] (D.walk (D.var 3)) (D.tt [(D.tn 4), (D.tn 6)]) [] (D.var 6))))
  (D.seq (D.asg (D.tsub (D.attr c_Seen (D.var 0) (⟨#[116, 105, 108, 116, 115]⟩ : PySem.Str)) (D.var 2)) (D.op1 O.sum (D.lc [4, 6] (D.walk (D.var 3)) (D.tt [(D.tn 4), (D.tn 6)]) [] (D.op2 O.mulx (D.var 4) (D.var 6)))))
  (D.ret (D.op2 O.item (D.attr c_Seen (D.var 0) (⟨#[108, 111, 97, 100, 115]⟩ : PySem.Str)) (D.var 2)))))))
def b_word_by : DS :=
  (D.seq (D.cond (D.op2 O.«lt» (D.var 1) (D.op2 O.sub (D.c (.int 0)) (D.op2 O.item (D.var 0) (D.c (.int 2))))) (D.ret (D.c (.str (⟨#[108, 101, 102, 116]⟩ : PySem.Str)))) D.pass)
  (D.ret (D.ite (D.op2 O.«gt» (D.var 1) (D.op2 O.item (D.var 0) (D.c (.int 2)))) (D.c (.str (⟨#[114, 105, 103, 104, 116]⟩ : PySem.Str))) (D.c (.str (⟨#[108, 101, 118, 101, 108]⟩ : PySem.Str))))))
def b_words_by : DS :=
  (D.seq (D.asg (D.tn 2) (D.new c_Seen i_Seenu__initu_ (D.cons (D.var 0) (D.cons (D.var 1) D.nil))))
  (D.ret (D.dc true [3] (D.walk (D.call i_paths_by (D.cons (D.var 0) D.nil))) (D.tn 3) (D.var 3) (D.call i_word_by (D.cons (D.call i_arm_by (D.cons (D.var 0) (D.cons (D.var 3) D.nil))) (D.cons (D.op2 O.item (D.attr c_Seen (D.var 2) (⟨#[116, 105, 108, 116, 115]⟩ : PySem.Str)) (D.var 3)) D.nil))))))
def b_need_place_of : DS :=
  (D.seq (D.expr (D.call i_need_standing (D.cons (D.var 0) (D.cons (D.var 1) D.nil))))
  (D.expr (D.call i_need_path (D.cons (D.var 0) (D.cons (D.var 2) D.nil)))))
def b_load : DS :=
  (D.seq (D.expr (D.call i_need_place_of (D.cons (D.var 0) (D.cons (D.var 1) (D.cons (D.var 2) D.nil)))))
  (D.ret (D.op2 O.item (D.attr c_Seen (D.new c_Seen i_Seenu__initu_ (D.cons (D.var 0) (D.cons (D.var 1) D.nil))) (⟨#[108, 111, 97, 100, 115]⟩ : PySem.Str)) (D.var 2))))
def b_tilt : DS :=
  (D.seq (D.expr (D.call i_need_place_of (D.cons (D.var 0) (D.cons (D.var 1) (D.cons (D.var 2) D.nil)))))
  (D.ret (D.op2 O.item (D.attr c_Seen (D.new c_Seen i_Seenu__initu_ (D.cons (D.var 0) (D.cons (D.var 1) D.nil))) (⟨#[116, 105, 108, 116, 115]⟩ : PySem.Str)) (D.var 2))))
def b_word : DS :=
  (D.seq (D.expr (D.call i_need_place_of (D.cons (D.var 0) (D.cons (D.var 1) (D.cons (D.var 2) D.nil)))))
  (D.ret (D.op2 O.item (D.call i_words_by (D.cons (D.var 0) (D.cons (D.var 1) D.nil))) (D.var 2))))
def b__law_cell_at : DS :=
  (D.seq (D.cond (D.op2 O.«lt» (D.var 1) (D.op1 O.len (D.var 0))) (D.ret (D.op2 O.item (D.var 0) (D.var 1))) D.pass)
  (D.ret (D.c (.int 0))))
def b__law_pen : DS :=
  (D.ret (D.fresh (D.lst (D.cons (D.op2 O.max2 (D.c (.int 0)) (D.op2 O.sub (D.var 0) (D.op2 O.pow (D.c (.int 10)) (D.c (.int 18))))) (D.cons (D.op2 O.add (D.op2 O.mod (D.var 0) (D.c (.int 2147483629))) (D.c (.int 1))) (D.cons (D.c (.int 0)) D.nil))))))
def b__law_draw : DS :=
  (D.seq (D.cond (D.op2 O.«gt» (D.op2 O.item (D.var 0) (D.c (.int 0))) (D.c (.int 0))) (D.seq (D.asg (D.tn 3) (D.op2 O.mod (D.op2 O.item (D.var 0) (D.c (.int 0))) (D.var 1)))
  (D.seq (D.asg (D.tsub (D.var 0) (D.c (.int 0))) (D.op2 O.fdiv (D.op2 O.item (D.var 0) (D.c (.int 0))) (D.var 1)))
  (D.ret (D.var 3)))) D.pass)
  (D.seq (D.asg (D.tsub (D.var 0) (D.c (.int 2))) (D.op2 O.add (D.op2 O.item (D.var 0) (D.c (.int 2))) (D.c (.int 1))))
  (D.seq (D.asg (D.tsub (D.var 0) (D.c (.int 1))) (D.op2 O.mod (D.op2 O.add (D.op2 O.add (D.op2 O.mulx (D.op2 O.item (D.var 0) (D.c (.int 1))) (D.c (.int 48271))) (D.op2 O.mulx (D.c (.int 1009)) (D.op2 O.item (D.var 0) (D.c (.int 2))))) (D.c (.int 7))) (D.c (.int 2147483647))))
  (D.seq (D.asg (D.tn 2) (D.op2 O.mod (D.op2 O.add (D.op2 O.add (D.op2 O.mulx (D.op2 O.item (D.var 0) (D.c (.int 1))) (D.op2 O.item (D.var 0) (D.c (.int 1)))) (D.op2 O.mulx (D.c (.int 69621)) (D.op2 O.item (D.var 0) (D.c (.int 1))))) (D.c (.int 11))) (D.c (.int 2147483629))))
  (D.seq (D.asg (D.tn 2) (D.op2 O.mod (D.op2 O.add (D.op2 O.mulx (D.var 2) (D.var 2)) (D.op2 O.mulx (D.c (.int 40014)) (D.var 2))) (D.c (.int 2147483587))))
  (D.ret (D.op2 O.mod (D.op2 O.fdiv (D.var 2) (D.c (.int 16))) (D.var 1))))))))
def b__law_kind : DS :=
  (D.seq (D.asg (D.tn 1) (D.lst (D.cons (D.isE [1, 2, 3, 4, 5, 6, 7, 8, 9, 10, 11, 12, 13, 14] (fun C => decide (C = 1)) (D.var 0)) (D.cons (D.isE [1, 2, 3, 4, 5, 6, 7, 8, 9, 10, 11, 12, 13, 14] (fun C => decide (C = 2)) (D.var 0)) (D.cons (D.isE [1, 2, 3, 4, 5, 6, 7, 8, 9, 10, 11, 12, 13, 14] (fun C => decide (C = 3)) (D.var 0)) (D.cons (D.isE [1, 2, 3, 4, 5, 6, 7, 8, 9, 10, 11, 12, 13, 14] (fun C => decide (C = 4)) (D.var 0)) D.nil))))))
  (D.seq (D.asg (D.tn 1) (D.op2 O.add (D.var 1) (D.lst (D.cons (D.isE [1, 2, 3, 4, 5, 6, 7, 8, 9, 10, 11, 12, 13, 14] (fun C => decide (C = 5)) (D.var 0)) (D.cons (D.isE [1, 2, 3, 4, 5, 6, 7, 8, 9, 10, 11, 12, 13, 14] (fun C => decide (C = 6)) (D.var 0)) (D.cons (D.isE [1, 2, 3, 4, 5, 6, 7, 8, 9, 10, 11, 12, 13, 14] (fun C => decide (C = 7)) (D.var 0)) (D.cons (D.isE [1, 2, 3, 4, 5, 6, 7, 8, 9, 10, 11, 12, 13, 14] (fun C => decide (C = 8)) (D.var 0)) D.nil)))))))
  (D.seq (D.asg (D.tn 1) (D.op2 O.add (D.var 1) (D.lst (D.cons (D.isE [1, 2, 3, 4, 5, 6, 7, 8, 9, 10, 11, 12, 13, 14] (fun C => decide (C = 9)) (D.var 0)) (D.cons (D.isE [1, 2, 3, 4, 5, 6, 7, 8, 9, 10, 11, 12, 13, 14] (fun C => decide (C = 10)) (D.var 0)) (D.cons (D.isE [1, 2, 3, 4, 5, 6, 7, 8, 9, 10, 11, 12, 13, 14] (fun C => decide (C = 11)) (D.var 0)) (D.cons (D.isE [1, 2, 3, 4, 5, 6, 7, 8, 9, 10, 11, 12, 13, 14] (fun C => decide (C = 12)) (D.var 0)) D.nil)))))))
  (D.seq (D.asg (D.tn 1) (D.op2 O.add (D.var 1) (D.lst (D.cons (D.isE [1, 2, 3, 4, 5, 6, 7, 8, 9, 10, 11, 12, 13, 14] (fun C => decide (C = 13)) (D.var 0)) (D.cons (D.isE [1, 2, 3, 4, 5, 6, 7, 8, 9, 10, 11, 12, 13, 14] (fun C => decide (C = 14)) (D.var 0)) D.nil)))))
  (D.seq (D.asg (D.tn 2) (D.lst (D.cons (D.c (.str (⟨#[97, 114, 109]⟩ : PySem.Str))) (D.cons (D.c (.str (⟨#[112, 97, 116, 104]⟩ : PySem.Str))) (D.cons (D.c (.str (⟨#[116, 104, 105, 110, 103]⟩ : PySem.Str))) (D.cons (D.c (.str (⟨#[115, 116, 97, 110, 100, 105, 110, 103]⟩ : PySem.Str))) (D.cons (D.c (.str (⟨#[102, 97, 108, 108, 115]⟩ : PySem.Str))) (D.cons (D.c (.str (⟨#[100, 114, 111, 112, 115]⟩ : PySem.Str))) (D.cons (D.c (.str (⟨#[112, 108, 97, 99, 101]⟩ : PySem.Str))) (D.cons (D.c (.str (⟨#[110, 111, 119]⟩ : PySem.Str))) (D.cons (D.c (.str (⟨#[112, 97, 114, 116]⟩ : PySem.Str))) (D.cons (D.c (.str (⟨#[114, 111, 119]⟩ : PySem.Str))) (D.cons (D.c (.str (⟨#[100, 101, 101, 100]⟩ : PySem.Str))) (D.cons (D.c (.str (⟨#[116, 101, 120, 116]⟩ : PySem.Str))) D.nil))))))))))))))
  (D.seq (D.cond (D.or (D.op2 O.«ne» (D.countL (D.var 1) (D.c (.bl true))) (D.c (.int 1))) (D.not (D.isE [1, 2, 3, 4, 5, 6, 7, 8, 9, 10, 11, 12, 13, 14] (fun C => true) (D.var 0)))) (D.ret (D.c (.str (⟨#[111, 116, 104, 101, 114]⟩ : PySem.Str)))) D.pass)
  (D.ret (D.op2 O.item (D.op2 O.add (D.var 2) (D.lst (D.cons (D.c (.str (⟨#[108, 105, 110, 101]⟩ : PySem.Str))) (D.cons (D.c (.str (⟨#[109, 97, 110, 121]⟩ : PySem.Str))) D.nil)))) (D.index (D.var 1) (D.c (.bl true)))))))))))
def b__law_arms_right : DS :=
  (D.seq (D.cond (D.or (D.op2 O.isBot (D.callk i_is_arm ⟨0, [(⟨#[116, 104, 105, 110, 103]⟩ : PySem.Str)], [0]⟩ D.nil (D.cons (D.var 0) D.nil) []) (D.c (.bl true))) (D.or (D.op2 O.«ne» (D.callk i_paths ⟨0, [(⟨#[97, 114, 109]⟩ : PySem.Str)], [0]⟩ D.nil (D.cons (D.var 0) D.nil) []) (D.tup (D.cons (D.tup D.nil) (D.cons (D.tup (D.cons (D.c (.int 2)) D.nil)) D.nil)))) (D.op2 O.«ne» (D.callk i_arm_at ⟨0, [(⟨#[112, 97, 116, 104]⟩ : PySem.Str), (⟨#[97, 114, 109]⟩ : PySem.Str)], [1, 0]⟩ D.nil (D.cons (D.tup (D.cons (D.c (.int 2)) D.nil)) (D.cons (D.var 0) D.nil)) []) (D.var 1)))) (D.ret (D.c (.bl false))) D.pass)
  (D.seq (D.cond (D.op2 O.«ne» (D.callk i_mirrored ⟨0, [(⟨#[97, 114, 109]⟩ : PySem.Str)], [0]⟩ D.nil (D.cons (D.var 0) D.nil) []) (D.tup (D.cons (D.c (.int 2)) (D.cons (D.c (.int 1)) (D.cons (D.c (.int 0)) (D.cons (D.c (.int 2)) (D.cons (D.tup (D.cons (D.tup (D.cons (D.op1 O.neg (D.c (.int 2))) (D.cons (D.var 1) D.nil))) (D.cons (D.tup (D.cons (D.c (.int 1)) (D.cons (D.c (.int 4)) D.nil))) D.nil))) D.nil))))))) (D.ret (D.c (.bl false))) D.pass)
  (D.ret (D.op2 O.«eq» (D.callk i_put ⟨0, [(⟨#[116, 104, 105, 110, 103]⟩ : PySem.Str), (⟨#[112, 97, 116, 104]⟩ : PySem.Str), (⟨#[97, 114, 109]⟩ : PySem.Str)], [2, 1, 0]⟩ D.nil (D.cons (D.c (.int 2)) (D.cons (D.tup (D.cons (D.c (.int 2)) D.nil)) (D.cons (D.var 0) D.nil))) []) (D.tup (D.cons (D.c (.int 1)) (D.cons (D.c (.int 2)) (D.cons (D.c (.int 0)) (D.cons (D.c (.int 2)) (D.cons (D.tup (D.cons (D.tup (D.cons (D.op1 O.neg (D.c (.int 1))) (D.cons (D.c (.int 4)) D.nil))) (D.cons (D.tup (D.cons (D.c (.int 2)) (D.cons (D.c (.int 2)) D.nil))) D.nil))) D.nil))))))))))
def b__law_beads_right : DS :=
  (D.seq (D.asg (D.tn 3) (D.tup (D.cons (D.tup D.nil) (D.cons (D.tup (D.cons (D.tup (D.cons (D.var 1) (D.cons (D.var 2) D.nil))) D.nil)) D.nil))))
  (D.seq (D.cond (D.or (D.op2 O.isBot (D.callk i_is_standing ⟨0, [(⟨#[116, 104, 105, 110, 103]⟩ : PySem.Str), (⟨#[97, 114, 109]⟩ : PySem.Str)], [1, 0]⟩ D.nil (D.cons (D.var 3) (D.cons (D.var 0) D.nil)) []) (D.c (.bl true))) (D.op2 O.«ne» (D.callk i_bare ⟨0, [(⟨#[97, 114, 109]⟩ : PySem.Str)], [0]⟩ D.nil (D.cons (D.var 0) D.nil) []) (D.tup (D.cons (D.tup D.nil) (D.cons (D.tup D.nil) D.nil))))) (D.ret (D.c (.bl false))) D.pass)
  (D.seq (D.asg (D.tn 4) (D.lst (D.cons (D.callk i_load ⟨0, [(⟨#[112, 97, 116, 104]⟩ : PySem.Str), (⟨#[115, 116, 97, 110, 100, 105, 110, 103]⟩ : PySem.Str), (⟨#[97, 114, 109]⟩ : PySem.Str)], [2, 1, 0]⟩ D.nil (D.cons (D.tup D.nil) (D.cons (D.var 3) (D.cons (D.var 0) D.nil))) []) (D.cons (D.callk i_load ⟨0, [(⟨#[112, 97, 116, 104]⟩ : PySem.Str), (⟨#[115, 116, 97, 110, 100, 105, 110, 103]⟩ : PySem.Str), (⟨#[97, 114, 109]⟩ : PySem.Str)], [2, 1, 0]⟩ D.nil (D.cons (D.tup (D.cons (D.c (.int 2)) D.nil)) (D.cons (D.var 3) (D.cons (D.var 0) D.nil))) []) D.nil))))
  (D.seq (D.asg (D.tn 4) (D.op2 O.add (D.var 4) (D.lst (D.cons (D.callk i_tilt ⟨0, [(⟨#[112, 97, 116, 104]⟩ : PySem.Str), (⟨#[115, 116, 97, 110, 100, 105, 110, 103]⟩ : PySem.Str), (⟨#[97, 114, 109]⟩ : PySem.Str)], [2, 1, 0]⟩ D.nil (D.cons (D.tup D.nil) (D.cons (D.var 3) (D.cons (D.var 0) D.nil))) []) (D.cons (D.callk i_tilt ⟨0, [(⟨#[112, 97, 116, 104]⟩ : PySem.Str), (⟨#[115, 116, 97, 110, 100, 105, 110, 103]⟩ : PySem.Str), (⟨#[97, 114, 109]⟩ : PySem.Str)], [2, 1, 0]⟩ D.nil (D.cons (D.tup (D.cons (D.c (.int 2)) D.nil)) (D.cons (D.var 3) (D.cons (D.var 0) D.nil))) []) D.nil)))))
  (D.seq (D.cond (D.op2 O.«ne» (D.var 4) (D.lst (D.cons (D.op2 O.add (D.c (.int 4)) (D.var 2)) (D.cons (D.var 2) (D.cons (D.op2 O.sub (D.op2 O.mulx (D.c (.int 2)) (D.var 2)) (D.c (.int 4))) (D.cons (D.op2 O.mulx (D.var 1) (D.var 2)) D.nil)))))) (D.ret (D.c (.bl false))) D.pass)
  (D.seq (D.asg (D.tn 5) (D.lst (D.cons (D.callk i_word ⟨0, [(⟨#[112, 97, 116, 104]⟩ : PySem.Str), (⟨#[115, 116, 97, 110, 100, 105, 110, 103]⟩ : PySem.Str), (⟨#[97, 114, 109]⟩ : PySem.Str)], [2, 1, 0]⟩ D.nil (D.cons (D.tup D.nil) (D.cons (D.var 3) (D.cons (D.var 0) D.nil))) []) (D.cons (D.callk i_word ⟨0, [(⟨#[112, 97, 116, 104]⟩ : PySem.Str), (⟨#[115, 116, 97, 110, 100, 105, 110, 103]⟩ : PySem.Str), (⟨#[97, 114, 109]⟩ : PySem.Str)], [2, 1, 0]⟩ D.nil (D.cons (D.tup (D.cons (D.c (.int 2)) D.nil)) (D.cons (D.var 3) (D.cons (D.var 0) D.nil))) []) D.nil))))
  (D.ret (D.op2 O.«eq» (D.var 5) (D.lst (D.cons (D.op2 O.item (D.lst (D.cons (D.c (.str (⟨#[108, 101, 102, 116]⟩ : PySem.Str))) (D.cons (D.c (.str (⟨#[108, 101, 118, 101, 108]⟩ : PySem.Str))) (D.cons (D.c (.str (⟨#[114, 105, 103, 104, 116]⟩ : PySem.Str))) D.nil)))) (D.op2 O.sub (D.var 2) (D.c (.int 1)))) (D.cons (D.op2 O.item (D.lst (D.cons (D.c (.str (⟨#[108, 101, 102, 116]⟩ : PySem.Str))) (D.cons (D.c (.str (⟨#[108, 101, 118, 101, 108]⟩ : PySem.Str))) (D.cons (D.c (.str (⟨#[114, 105, 103, 104, 116]⟩ : PySem.Str))) D.nil)))) (D.op2 O.add (D.var 1) (D.c (.int 1)))) D.nil)))))))))))
def b__law_errors_right : DS :=
  (D.seq (D.asg (D.tn 0) (D.lst (D.cons (D.newE c_NoArm) (D.cons (D.newE c_NoPath) (D.cons (D.newE c_NoThing) (D.cons (D.newE c_NoStanding) (D.cons (D.newE c_NoFalls) (D.cons (D.newE c_NoDrops) (D.cons (D.newE c_NoPlace) D.nil)))))))))
  (D.seq (D.asg (D.tn 0) (D.op2 O.add (D.var 0) (D.lst (D.cons (D.newE c_NotNow) (D.cons (D.newE c_NoPart) (D.cons (D.newE c_NoRow) (D.cons (D.newE c_NoDeed) (D.cons (D.newE c_NoText) (D.cons (D.newE c_NoLine) (D.cons (D.newTm c_TooMany i_tm (D.c (.int 9)) (D.c (.int 4))) D.nil))))))))))
  (D.seq (D.asg (D.tn 1) (D.lst (D.cons (D.c (.str (⟨#[97, 114, 109]⟩ : PySem.Str))) (D.cons (D.c (.str (⟨#[112, 97, 116, 104]⟩ : PySem.Str))) (D.cons (D.c (.str (⟨#[116, 104, 105, 110, 103]⟩ : PySem.Str))) (D.cons (D.c (.str (⟨#[115, 116, 97, 110, 100, 105, 110, 103]⟩ : PySem.Str))) (D.cons (D.c (.str (⟨#[102, 97, 108, 108, 115]⟩ : PySem.Str))) (D.cons (D.c (.str (⟨#[100, 114, 111, 112, 115]⟩ : PySem.Str))) (D.cons (D.c (.str (⟨#[112, 108, 97, 99, 101]⟩ : PySem.Str))) (D.cons (D.c (.str (⟨#[110, 111, 119]⟩ : PySem.Str))) (D.cons (D.c (.str (⟨#[112, 97, 114, 116]⟩ : PySem.Str))) (D.cons (D.c (.str (⟨#[114, 111, 119]⟩ : PySem.Str))) (D.cons (D.c (.str (⟨#[100, 101, 101, 100]⟩ : PySem.Str))) (D.cons (D.c (.str (⟨#[116, 101, 120, 116]⟩ : PySem.Str))) D.nil))))))))))))))
  (D.seq (D.cond (D.op2 O.«ne» (D.lc [3] (D.walk (D.var 0)) (D.tn 3) [] (D.call i__law_kind (D.cons (D.var 3) D.nil))) (D.op2 O.add (D.var 1) (D.lst (D.cons (D.c (.str (⟨#[108, 105, 110, 101]⟩ : PySem.Str))) (D.cons (D.c (.str (⟨#[109, 97, 110, 121]⟩ : PySem.Str))) D.nil))))) (D.ret (D.c (.bl false))) D.pass)
  (D.seq (D.cond (D.not (D.op1 O.all (D.lc [3] (D.walk (D.var 0)) (D.tn 3) [] (D.isE [1, 2, 3, 4, 5, 6, 7, 8, 9, 10, 11, 12, 13, 14] (fun C => true) (D.var 3))))) (D.ret (D.c (.bl false))) D.pass)
  (D.seq (D.asg (D.tn 2) (D.lst (D.cons (D.newTm c_TooMany i_tm (D.c (.int 9)) (D.c (.int 4))) (D.cons (D.newTmK c_TooMany i_tm (D.cons (D.c (.int 4)) (D.cons (D.c (.int 9)) D.nil))) D.nil))))
  (D.ret (D.op2 O.«eq» (D.lc [3] (D.walk (D.var 2)) (D.tn 3) [] (D.tup (D.cons (D.attrE c_TooMany (D.var 3) (⟨#[109, 97, 110, 121]⟩ : PySem.Str)) (D.cons (D.attrE c_TooMany (D.var 3) (⟨#[109, 111, 115, 116]⟩ : PySem.Str)) D.nil)))) (D.op2 O.mulx (D.lst (D.cons (D.tup (D.cons (D.c (.int 9)) (D.cons (D.c (.int 4)) D.nil))) D.nil)) (D.c (.int 2)))))))))))
def b_law : DS :=
  (D.seq (D.asg (D.tn 1) (D.tup (D.cons (D.c (.int 1)) (D.cons (D.c (.int 1)) (D.cons (D.c (.int 0)) (D.cons (D.c (.int 1)) (D.cons (D.tup D.nil) D.nil)))))))
  (D.seq (D.asg (D.tn 2) (D.tup (D.cons (D.c (.int 1)) (D.cons (D.c (.int 2)) (D.cons (D.c (.int 0)) (D.cons (D.c (.int 2)) (D.cons (D.tup (D.cons (D.tup (D.cons (D.op1 O.neg (D.c (.int 1))) (D.cons (D.c (.int 4)) D.nil))) (D.cons (D.tup (D.cons (D.c (.int 2)) (D.cons (D.var 1) D.nil))) D.nil))) D.nil)))))))
  (D.seq (D.cond (D.or (D.not (D.call i__law_errors_right D.nil)) (D.not (D.call i__law_arms_right (D.cons (D.var 2) (D.cons (D.var 1) D.nil))))) (D.ret (D.c (.bl false))) D.pass)
  (D.seq (D.for (D.tn 3) (D.range1 (D.op2 O.max2 (D.c (.int 1)) (D.op2 O.min2 (D.op1 O.len (D.var 0)) (D.c (.int 3))))) (D.seq (D.asg (D.tn 4) (D.call i__law_pen (D.cons (D.call i__law_cell_at (D.cons (D.var 0) (D.cons (D.var 3) D.nil))) D.nil)))
  (D.for (D.tn 5) (D.range1 (D.c (.int 4))) (D.cond (D.not (D.call i__law_beads_right (D.cons (D.var 2) (D.cons (D.op2 O.sub (D.call i__law_draw (D.cons (D.var 4) (D.cons (D.c (.int 3)) D.nil))) (D.c (.int 1))) (D.cons (D.op2 O.add (D.c (.int 1)) (D.call i__law_draw (D.cons (D.var 4) (D.cons (D.c (.int 3)) D.nil)))) D.nil))))) (D.ret (D.c (.bl false))) D.pass))))
  (D.ret (D.c (.bl true)))))))
def tblR : Nat → Option FnD
  | 0 => some ⟨1, 1, true, b_is_whole⟩
  | 1 => some ⟨3, 3, true, b_is_within⟩
  | 2 => some ⟨3, 3, true, b_is_long⟩
  | 3 => some ⟨1, 3, true, b_rises⟩
  | 4 => some ⟨1, 3, true, b_falls_not⟩
  | 5 => some ⟨2, 10, true, b_is_arm_by⟩
  | 6 => some ⟨1, 1, true, b_is_weight⟩
  | 7 => some ⟨1, 3, true, b_arms_in⟩
  | 8 => some ⟨1, 3, true, b_deep_of⟩
  | 9 => some ⟨1, 1, true, b_is_arm⟩
  | 10 => some ⟨1, 1, true, b_need_arm⟩
  | 11 => some ⟨1, 5, true, b_paths_by⟩
  | 12 => some ⟨1, 1, true, b_paths⟩
  | 13 => some ⟨2, 3, true, b_is_path⟩
  | 14 => some ⟨2, 2, true, b_need_path⟩
  | 15 => some ⟨2, 4, true, b_arm_by⟩
  | 16 => some ⟨2, 2, true, b_arm_at⟩
  | 17 => some ⟨1, 8, true, b_mirrored_by⟩
  | 18 => some ⟨1, 1, true, b_mirrored⟩
  | 19 => some ⟨3, 6, true, b_put_by⟩
  | 20 => some ⟨3, 6, true, b_put⟩
  | 21 => some ⟨2, 2, true, b_is_bead⟩
  | 22 => some ⟨2, 3, true, b_are_beads⟩
  | 23 => some ⟨2, 5, true, b_is_standing_by⟩
  | 24 => some ⟨2, 2, true, b_is_standing⟩
  | 25 => some ⟨2, 2, true, b_need_standing⟩
  | 26 => some ⟨1, 1, true, b_bare⟩
  | 27 => some ⟨3, 3, false, b_Seenu__initu_⟩
  | 28 => some ⟨3, 7, false, b_Seen_look⟩
  | 29 => some ⟨2, 2, true, b_word_by⟩
  | 30 => some ⟨2, 4, true, b_words_by⟩
  | 31 => some ⟨3, 3, true, b_need_place_of⟩
  | 32 => some ⟨3, 3, true, b_load⟩
  | 33 => some ⟨3, 3, true, b_tilt⟩
  | 34 => some ⟨3, 3, true, b_word⟩
  | 35 => some ⟨2, 2, true, b__law_cell_at⟩
  | 36 => some ⟨1, 1, false, b__law_pen⟩
  | 37 => some ⟨2, 4, false, b__law_draw⟩
  | 38 => some ⟨1, 3, false, b__law_kind⟩
  | 39 => some ⟨2, 2, true, b__law_arms_right⟩
  | 40 => some ⟨3, 6, true, b__law_beads_right⟩
  | 41 => some ⟨0, 4, true, b__law_errors_right⟩
  | 42 => some ⟨1, 6, true, b_law⟩
  | _ => none
def tblL : Nat → Option FnD
  | 499 => some ⟨0, 0, false, D.pass⟩
  | _ => none
def tbl (f : Nat) : Option FnD := if Nat.blt f 500 then tblR f else tblL (f - 500)
theorem t__law_cell_at : tbl i__law_cell_at = some ⟨2, 2, true, b__law_cell_at⟩ := rfl
theorem t__law_pen : tbl i__law_pen = some ⟨1, 1, false, b__law_pen⟩ := rfl
theorem t__law_draw : tbl i__law_draw = some ⟨2, 4, false, b__law_draw⟩ := rfl
theorem t_law : tbl i_law = some ⟨1, 6, true, b_law⟩ := rfl
end Dn

namespace Dn
open L2
def top (i : Nat) : PySem.Stmt := PySem.Challenge.pw_tiltbeads_k06_an_arm_by_hand_and_by_name.main.body.getD i (.Pass ⟨0, 0, 0, 0⟩)
def mem (i j : Nat) : PySem.Stmt := match top i with
  | .ClassDef _ _ _ b _ _ _ _ _ _ _ => b.getD j (.Pass ⟨0, 0, 0, 0⟩)
  | x => x
def gn : Nat → Option PySem.Str
  | 0 => some ("is_whole" : PySem.Str)
  | 1 => some ("is_within" : PySem.Str)
  | 2 => some ("is_long" : PySem.Str)
  | 3 => some ("rises" : PySem.Str)
  | 4 => some ("falls_not" : PySem.Str)
  | 5 => some ("is_arm_by" : PySem.Str)
  | 6 => some ("is_weight" : PySem.Str)
  | 7 => some ("arms_in" : PySem.Str)
  | 8 => some ("deep_of" : PySem.Str)
  | 9 => some ("is_arm" : PySem.Str)
  | 10 => some ("need_arm" : PySem.Str)
  | 11 => some ("paths_by" : PySem.Str)
  | 12 => some ("paths" : PySem.Str)
  | 13 => some ("is_path" : PySem.Str)
  | 14 => some ("need_path" : PySem.Str)
  | 15 => some ("arm_by" : PySem.Str)
  | 16 => some ("arm_at" : PySem.Str)
  | 17 => some ("mirrored_by" : PySem.Str)
  | 18 => some ("mirrored" : PySem.Str)
  | 19 => some ("put_by" : PySem.Str)
  | 20 => some ("put" : PySem.Str)
  | 21 => some ("is_bead" : PySem.Str)
  | 22 => some ("are_beads" : PySem.Str)
  | 23 => some ("is_standing_by" : PySem.Str)
  | 24 => some ("is_standing" : PySem.Str)
  | 25 => some ("need_standing" : PySem.Str)
  | 26 => some ("bare" : PySem.Str)
  | 29 => some ("word_by" : PySem.Str)
  | 30 => some ("words_by" : PySem.Str)
  | 31 => some ("need_place_of" : PySem.Str)
  | 32 => some ("load" : PySem.Str)
  | 33 => some ("tilt" : PySem.Str)
  | 34 => some ("word" : PySem.Str)
  | 35 => some ("_law_cell_at" : PySem.Str)
  | 36 => some ("_law_pen" : PySem.Str)
  | 37 => some ("_law_draw" : PySem.Str)
  | 38 => some ("_law_kind" : PySem.Str)
  | 39 => some ("_law_arms_right" : PySem.Str)
  | 40 => some ("_law_beads_right" : PySem.Str)
  | 41 => some ("_law_errors_right" : PySem.Str)
  | 42 => some ("law" : PySem.Str)
  | _ => none
def df : Nat → List PV

  | _ => []
def cnm : Nat → Option PySem.Str
  | 15 => some ("Seen" : PySem.Str)
  | _ => none
def cin : Nat → Nat
  | 15 => 27
  | _ => 0
def flds : Nat → List PySem.Str
  | 15 => [("beads" : PySem.Str), ("loads" : PySem.Str), ("tilts" : PySem.Str)]
  | _ => []
def mths : Nat → List (PySem.Str × Nat)
  | 15 => [(("look" : PySem.Str), 28)]
  | _ => []
def csts (x : PySem.Str) : Option PV := if sEq x ("MOST_SIDE" : PySem.Str) then some (.int 3) else if sEq x ("MOST_SLACK" : PySem.Str) then some (.int 9) else if sEq x ("MOST_HOLDS" : PySem.Str) then some (.int 3) else if sEq x ("MOST_WEIGHT" : PySem.Str) then some (.int 9) else if sEq x ("MOST_ARMS" : PySem.Str) then some (.int 4) else if sEq x ("MOST_DEEP" : PySem.Str) then some (.int 3) else if sEq x ("LONG_ARM" : PySem.Str) then some (.int 5) else if sEq x ("MOST_BEAD" : PySem.Str) then some (.int 3) else if sEq x ("LEVEL" : PySem.Str) then some (.str (⟨#[108, 101, 118, 101, 108]⟩ : PySem.Str)) else if sEq x ("LEFT" : PySem.Str) then some (.str (⟨#[108, 101, 102, 116]⟩ : PySem.Str)) else if sEq x ("RIGHT" : PySem.Str) then some (.str (⟨#[114, 105, 103, 104, 116]⟩ : PySem.Str)) else none
def fre : List PySem.Str := [("ValueError" : PySem.Str), ("all" : PySem.Str), ("bool" : PySem.Str), ("dict" : PySem.Str), ("int" : PySem.Str), ("isinstance" : PySem.Str), ("len" : PySem.Str), ("list" : PySem.Str), ("max" : PySem.Str), ("min" : PySem.Str), ("range" : PySem.Str), ("sum" : PySem.Str), ("tuple" : PySem.Str), ("zip" : PySem.Str)]
def kws : Nat → List KwS
  | 9 => [⟨0, [(⟨#[116, 104, 105, 110, 103]⟩ : PySem.Str)], [0]⟩]
  | 12 => [⟨0, [(⟨#[97, 114, 109]⟩ : PySem.Str)], [0]⟩]
  | 16 => [⟨0, [(⟨#[112, 97, 116, 104]⟩ : PySem.Str), (⟨#[97, 114, 109]⟩ : PySem.Str)], [1, 0]⟩]
  | 18 => [⟨0, [(⟨#[97, 114, 109]⟩ : PySem.Str)], [0]⟩]
  | 20 => [⟨0, [(⟨#[116, 104, 105, 110, 103]⟩ : PySem.Str), (⟨#[112, 97, 116, 104]⟩ : PySem.Str), (⟨#[97, 114, 109]⟩ : PySem.Str)], [2, 1, 0]⟩]
  | 24 => [⟨0, [(⟨#[116, 104, 105, 110, 103]⟩ : PySem.Str), (⟨#[97, 114, 109]⟩ : PySem.Str)], [1, 0]⟩]
  | 26 => [⟨0, [(⟨#[97, 114, 109]⟩ : PySem.Str)], [0]⟩]
  | 32 => [⟨0, [(⟨#[112, 97, 116, 104]⟩ : PySem.Str), (⟨#[115, 116, 97, 110, 100, 105, 110, 103]⟩ : PySem.Str), (⟨#[97, 114, 109]⟩ : PySem.Str)], [2, 1, 0]⟩]
  | 33 => [⟨0, [(⟨#[112, 97, 116, 104]⟩ : PySem.Str), (⟨#[115, 116, 97, 110, 100, 105, 110, 103]⟩ : PySem.Str), (⟨#[97, 114, 109]⟩ : PySem.Str)], [2, 1, 0]⟩]
  | 34 => [⟨0, [(⟨#[112, 97, 116, 104]⟩ : PySem.Str), (⟨#[115, 116, 97, 110, 100, 105, 110, 103]⟩ : PySem.Str), (⟨#[97, 114, 109]⟩ : PySem.Str)], [2, 1, 0]⟩]
  | _ => []
def isl : List Nat := []
def enm : Nat → Option PySem.Str
  | 1 => some ("NoArm" : PySem.Str)
  | 2 => some ("NoPath" : PySem.Str)
  | 3 => some ("NoThing" : PySem.Str)
  | 4 => some ("NoStanding" : PySem.Str)
  | 5 => some ("NoFalls" : PySem.Str)
  | 6 => some ("NoDrops" : PySem.Str)
  | 7 => some ("NoPlace" : PySem.Str)
  | 8 => some ("NotNow" : PySem.Str)
  | 9 => some ("NoPart" : PySem.Str)
  | 10 => some ("NoRow" : PySem.Str)
  | 11 => some ("NoDeed" : PySem.Str)
  | 12 => some ("NoText" : PySem.Str)
  | 13 => some ("NoLine" : PySem.Str)
  | 0 => some ("TiltError" : PySem.Str)
  | _ => none
def enm2 : Nat → Option PySem.Str
  | 14 => some ("TooMany" : PySem.Str)
  | _ => none
def exl : List (Nat × Nat) := []
def lamsL : List PySem.Str := []
def xvL : Option (List Nat × Nat × Nat) := some ([1, 2, 3, 4, 5, 6, 7, 8, 9, 10, 11, 12, 13, 14], 0, 14)
def Γ : Pg := ⟨tbl, gn, df, cnm, cin, flds, mths, csts, fre, kws, isl, enm, exl, lamsL, kdL, false, xvL⟩
abbrev n_is_whole : List PySem.Str := [("thing" : PySem.Str)]
theorem s_is_whole : SSs Γ n_is_whole (L2.defScope (top 24)) (L2.defBody (top 24)) b_is_whole :=
  (SSs.one (SS.ret (SE.and (o_isInt (by decide +kernel) (by decide +kernel) (SE.var (by decide +kernel))) (SE.and1 (SE.not (o_isBool (by decide +kernel) (by decide +kernel) (SE.var (by decide +kernel))))))))
abbrev n_is_within : List PySem.Str := [("thing" : PySem.Str), ("least" : PySem.Str), ("most" : PySem.Str)]
theorem s_is_within : SSs Γ n_is_within (L2.defScope (top 25)) (L2.defBody (top 25)) b_is_within :=
  (SSs.one (SS.ret (SE.and (SE.call (j := 0) (by decide +kernel) (by decide +kernel) rfl (SA.cons (SE.var (by decide +kernel)) SA.nil)) (SE.and1 (SE.chain o_le o_le (SE.var (by decide +kernel)) (SE.var (by decide +kernel)) (SE.var (by decide +kernel)) rfl)))))
abbrev n_is_long : List PySem.Str := [("thing" : PySem.Str), ("least" : PySem.Str), ("most" : PySem.Str)]
theorem s_is_long : SSs Γ n_is_long (L2.defScope (top 26)) (L2.defBody (top 26)) b_is_long :=
  (SSs.one (SS.ret (SE.and (o_isTup (by decide +kernel) (by decide +kernel) (SE.var (by decide +kernel))) (SE.and1 (SE.chain o_le o_le (SE.var (by decide +kernel)) (o_len (by decide +kernel) (SE.var (by decide +kernel))) (SE.var (by decide +kernel)) rfl)))))
abbrev n_rises : List PySem.Str := [("row" : PySem.Str), ("one" : PySem.Str), ("later" : PySem.Str)]
theorem s_rises : SSs Γ n_rises (L2.defScope (top 27)) (L2.defBody (top 27)) b_rises :=
  (SSs.one (SS.ret (o_all (by decide +kernel) (SEF.val (SEF.lc (own := [(("one" : PySem.Str), 1), (("later" : PySem.Str), 2)]) (by decide +kernel) rfl (SI.zip (by decide +kernel) (SE.var (by decide +kernel)) (SE.slice (SE.var (by decide +kernel)) (SO.yes SE.int) SO.no)) (Keeps.tt (Keep2.cons (Keeps.tn (by decide +kernel) (by decide)) (Keep2.cons (Keeps.tn (by decide +kernel) (by decide)) Keep2.nil)) rfl) STs.nil (SE.cmp o_lt (SE.var (by decide +kernel)) (SE.var (by decide +kernel)) rfl)) lo_lc))))
abbrev n_falls_not : List PySem.Str := [("row" : PySem.Str), ("one" : PySem.Str), ("later" : PySem.Str)]
theorem s_falls_not : SSs Γ n_falls_not (L2.defScope (top 28)) (L2.defBody (top 28)) b_falls_not :=
  (SSs.one (SS.ret (o_all (by decide +kernel) (SEF.val (SEF.lc (own := [(("one" : PySem.Str), 1), (("later" : PySem.Str), 2)]) (by decide +kernel) rfl (SI.zip (by decide +kernel) (SE.var (by decide +kernel)) (SE.slice (SE.var (by decide +kernel)) (SO.yes SE.int) SO.no)) (Keeps.tt (Keep2.cons (Keeps.tn (by decide +kernel) (by decide)) (Keep2.cons (Keeps.tn (by decide +kernel) (by decide)) Keep2.nil)) rfl) STs.nil (SE.cmp o_le (SE.var (by decide +kernel)) (SE.var (by decide +kernel)) rfl)) lo_lc))))
abbrev n_is_arm_by : List PySem.Str := [("thing" : PySem.Str), ("deep" : PySem.Str), ("left" : PySem.Str), ("right" : PySem.Str), ("slack" : PySem.Str), ("holds" : PySem.Str), ("hung" : PySem.Str), ("one" : PySem.Str), ("place" : PySem.Str), ("what" : PySem.Str)]
theorem s_is_arm_by : SSs Γ n_is_arm_by (L2.defScope (top 29)) (L2.defBody (top 29)) b_is_arm_by :=
  (SSs.cons (SS.if (SW.st (SW.or (ST.cmp o_eq (SE.var (by decide +kernel)) SE.int rfl) (SW.or1 (ST.not (ST.val (SE.call (j := 0) (by decide +kernel) (by decide +kernel) rfl (SA.cons (SE.var (by decide +kernel)) (SA.cons (SE.glob (by decide +kernel) rfl) (SA.cons (SE.glob (by decide +kernel) rfl) SA.nil))))))))) (SSs.one (SS.ret SE.bl)) SSs.nil)
  (SSs.cons (SS.asg (SE.var (by decide +kernel)) (SG.tt (SGs.cons (SG.tn (by decide +kernel)) (SGs.cons (SG.tn (by decide +kernel)) (SGs.cons (SG.tn (by decide +kernel)) (SGs.cons (SG.tn (by decide +kernel)) (SGs.cons (SG.tn (by decide +kernel)) SGs.nil))))) rfl))
  (SSs.cons (SS.if (SW.st (SW.or (ST.not (ST.val (SE.call (j := 0) (by decide +kernel) (by decide +kernel) rfl (SA.cons (SE.var (by decide +kernel)) (SA.cons SE.int (SA.cons (SE.glob (by decide +kernel) rfl) SA.nil)))))) (SW.or1 (ST.not (ST.val (SE.call (j := 0) (by decide +kernel) (by decide +kernel) rfl (SA.cons (SE.var (by decide +kernel)) (SA.cons SE.int (SA.cons (SE.glob (by decide +kernel) rfl) SA.nil))))))))) (SSs.one (SS.ret SE.bl)) SSs.nil)
  (SSs.cons (SS.if (SW.st (SW.or (ST.not (ST.val (SE.call (j := 0) (by decide +kernel) (by decide +kernel) rfl (SA.cons (SE.var (by decide +kernel)) (SA.cons SE.int (SA.cons (SE.glob (by decide +kernel) rfl) SA.nil)))))) (SW.or (ST.not (ST.val (SE.call (j := 0) (by decide +kernel) (by decide +kernel) rfl (SA.cons (SE.var (by decide +kernel)) (SA.cons SE.int (SA.cons (SE.glob (by decide +kernel) rfl) SA.nil)))))) (SW.or1 (ST.not (ST.val (o_isTup (by decide +kernel) (by decide +kernel) (SE.var (by decide +kernel))))))))) (SSs.one (SS.ret SE.bl)) SSs.nil)
  (SSs.cons (SS.if (ST.not (ST.val (o_all (by decide +kernel) (SEF.val (SEF.lc (own := [(("one" : PySem.Str), 7)]) (by decide +kernel) rfl (SI.walk (SE.var (by decide +kernel))) (Keeps.tn (by decide +kernel) (by decide)) STs.nil (SE.and (SE.call (j := 0) (by decide +kernel) (by decide +kernel) rfl (SA.cons (SE.var (by decide +kernel)) (SA.cons SE.int (SA.cons SE.int SA.nil)))) (SE.and1 (SE.call (j := 0) (by decide +kernel) (by decide +kernel) rfl (SA.cons (o_item (SE.var (by decide +kernel)) SE.int) (SA.cons (SE.bin o_sub SE.int (SE.var (by decide +kernel))) (SA.cons (SE.var (by decide +kernel)) SA.nil))))))) lo_lc)))) (SSs.one (SS.ret SE.bl)) SSs.nil)
  (SSs.cons (SS.if (ST.not (ST.val (SE.call (j := 0) (by decide +kernel) (by decide +kernel) rfl (SA.cons (SEF.val (SEF.lc (own := [(("place" : PySem.Str), 8), (("what" : PySem.Str), 9)]) (by decide +kernel) rfl (SI.walk (SE.var (by decide +kernel))) (Keeps.tt (Keep2.cons (Keeps.tn (by decide +kernel) (by decide)) (Keep2.cons (Keeps.tn (by decide +kernel) (by decide)) Keep2.nil)) rfl) STs.nil (SE.var (by decide +kernel))) lo_lc) SA.nil)))) (SSs.one (SS.ret SE.bl)) SSs.nil)
  (SSs.one (SS.ret (o_all (by decide +kernel) (SEF.val (SEF.lc (own := [(("place" : PySem.Str), 8), (("what" : PySem.Str), 9)]) (by decide +kernel) rfl (SI.walk (SE.var (by decide +kernel))) (Keeps.tt (Keep2.cons (Keeps.tn (by decide +kernel) (by decide)) (Keep2.cons (Keeps.tn (by decide +kernel) (by decide)) Keep2.nil)) rfl) STs.nil (SE.or (SE.call (j := 0) (by decide +kernel) (by decide +kernel) rfl (SA.cons (SE.var (by decide +kernel)) SA.nil)) (SE.and1 (SE.call (j := 0) (by decide +kernel) (by decide +kernel) rfl (SA.cons (SE.var (by decide +kernel)) (SA.cons (SE.bin o_sub (SE.var (by decide +kernel)) SE.int) SA.nil)))))) lo_lc))))))))))
abbrev n_is_weight : List PySem.Str := [("thing" : PySem.Str)]
theorem s_is_weight : SSs Γ n_is_weight (L2.defScope (top 30)) (L2.defBody (top 30)) b_is_weight :=
  (SSs.one (SS.ret (SE.call (j := 0) (by decide +kernel) (by decide +kernel) rfl (SA.cons (SE.var (by decide +kernel)) (SA.cons SE.int (SA.cons (SE.glob (by decide +kernel) rfl) SA.nil))))))
abbrev n_arms_in : List PySem.Str := [("arm" : PySem.Str), ("place" : PySem.Str), ("what" : PySem.Str)]
theorem s_arms_in : SSs Γ n_arms_in (L2.defScope (top 31)) (L2.defBody (top 31)) b_arms_in :=
  (SSs.one (SS.ret (SE.bin o_add SE.int (o_sum (by decide +kernel) (SEF.val (SEF.lc (own := [(("place" : PySem.Str), 1), (("what" : PySem.Str), 2)]) (by decide +kernel) rfl (SI.walk (o_item (SE.var (by decide +kernel)) SE.int)) (Keeps.tt (Keep2.cons (Keeps.tn (by decide +kernel) (by decide)) (Keep2.cons (Keeps.tn (by decide +kernel) (by decide)) Keep2.nil)) rfl) (STs.one (ST.val (o_isTup (by decide +kernel) (by decide +kernel) (SE.var (by decide +kernel))))) (SE.call (j := 0) (by decide +kernel) (by decide +kernel) rfl (SA.cons (SE.var (by decide +kernel)) SA.nil))) lo_lc)))))
abbrev n_deep_of : List PySem.Str := [("arm" : PySem.Str), ("place" : PySem.Str), ("what" : PySem.Str)]
theorem s_deep_of : SSs Γ n_deep_of (L2.defScope (top 32)) (L2.defBody (top 32)) b_deep_of :=
  (SSs.one (SS.ret (SE.bin o_add SE.int (SE.maxD (by decide +kernel) (SEF.val (SEF.lc (own := [(("place" : PySem.Str), 1), (("what" : PySem.Str), 2)]) (by decide +kernel) rfl (SI.walk (o_item (SE.var (by decide +kernel)) SE.int)) (Keeps.tt (Keep2.cons (Keeps.tn (by decide +kernel) (by decide)) (Keep2.cons (Keeps.tn (by decide +kernel) (by decide)) Keep2.nil)) rfl) (STs.one (ST.val (o_isTup (by decide +kernel) (by decide +kernel) (SE.var (by decide +kernel))))) (SE.call (j := 0) (by decide +kernel) (by decide +kernel) rfl (SA.cons (SE.var (by decide +kernel)) SA.nil))) lo_lc) SE.int))))
abbrev n_is_arm : List PySem.Str := [("thing" : PySem.Str)]
theorem s_is_arm : SSs Γ n_is_arm (L2.defScope (top 33)) (L2.defBody (top 33)) b_is_arm :=
  (SSs.one (SS.ret (SE.and (SE.call (j := 0) (by decide +kernel) (by decide +kernel) rfl (SA.cons (SE.var (by decide +kernel)) (SA.cons (SE.glob (by decide +kernel) rfl) SA.nil))) (SE.and1 (SE.cmp o_le (SE.call (j := 0) (by decide +kernel) (by decide +kernel) rfl (SA.cons (SE.var (by decide +kernel)) SA.nil)) (SE.glob (by decide +kernel) rfl) rfl)))))
abbrev n_need_arm : List PySem.Str := [("thing" : PySem.Str)]
theorem s_need_arm : SSs Γ n_need_arm (L2.defScope (top 34)) (L2.defBody (top 34)) b_need_arm :=
  (SSs.one (SS.if (ST.not (ST.val (SE.call (j := 0) (by decide +kernel) (by decide +kernel) rfl (SA.cons (SE.var (by decide +kernel)) SA.nil)))) (SSs.one SS.stuck) SSs.nil))
abbrev n_paths_by : List PySem.Str := [("arm" : PySem.Str), ("found" : PySem.Str), ("place" : PySem.Str), ("what" : PySem.Str), ("path" : PySem.Str)]
theorem s_paths_by : SSs Γ n_paths_by (L2.defScope (top 35)) (L2.defBody (top 35)) b_paths_by :=
  (SSs.cons (SS.asg (SEF.fresh (SEF.lst (SA.cons (SE.tup SA.nil) SA.nil)) lo_lst) (SG.tn (by decide +kernel)))
  (SSs.cons (SS.for (SI.walk (o_item (SE.var (by decide +kernel)) SE.int)) (SG.tt (SGs.cons (SG.tn (by decide +kernel)) (SGs.cons (SG.tn (by decide +kernel)) SGs.nil)) rfl) (SSs.one (SS.if (ST.val (o_isTup (by decide +kernel) (by decide +kernel) (SE.var (by decide +kernel)))) (SSs.one (SS.expr (SE.extend (SE.var (by decide +kernel)) (SEF.val (SEF.lc (own := [(("path" : PySem.Str), 4)]) (by decide +kernel) rfl (SI.walk (SE.call (j := 0) (by decide +kernel) (by decide +kernel) rfl (SA.cons (SE.var (by decide +kernel)) SA.nil))) (Keeps.tn (by decide +kernel) (by decide)) STs.nil (SE.bin o_add (SE.tup (SA.cons (SE.var (by decide +kernel)) SA.nil)) (SE.var (by decide +kernel)))) lo_lc) ⟨fun _ => rfl, fun _ => rfl, rfl, fun _ => rfl, fun _ => rfl⟩))) SSs.nil)))
  (SSs.one (SS.ret (o_tuple (by decide +kernel) (SE.var (by decide +kernel)))))))
abbrev n_paths : List PySem.Str := [("arm" : PySem.Str)]
theorem s_paths : SSs Γ n_paths (L2.defScope (top 36)) (L2.defBody (top 36)) b_paths :=
  (SSs.cons (SS.expr (SE.call (j := 0) (by decide +kernel) (by decide +kernel) rfl (SA.cons (SE.var (by decide +kernel)) SA.nil)))
  (SSs.one (SS.ret (SE.call (j := 0) (by decide +kernel) (by decide +kernel) rfl (SA.cons (SE.var (by decide +kernel)) SA.nil)))))
abbrev n_is_path : List PySem.Str := [("arm" : PySem.Str), ("thing" : PySem.Str), ("one" : PySem.Str)]
theorem s_is_path : SSs Γ n_is_path (L2.defScope (top 37)) (L2.defBody (top 37)) b_is_path :=
  (SSs.one (SS.ret (SE.and (o_isTup (by decide +kernel) (by decide +kernel) (SE.var (by decide +kernel))) (SE.and (o_all (by decide +kernel) (SEF.val (SEF.lc (own := [(("one" : PySem.Str), 2)]) (by decide +kernel) rfl (SI.walk (SE.var (by decide +kernel))) (Keeps.tn (by decide +kernel) (by decide)) STs.nil (SE.call (j := 0) (by decide +kernel) (by decide +kernel) rfl (SA.cons (SE.var (by decide +kernel)) SA.nil))) lo_lc)) (SE.and1 (SE.cmp o_in (SE.var (by decide +kernel)) (SE.call (j := 0) (by decide +kernel) (by decide +kernel) rfl (SA.cons (SE.var (by decide +kernel)) SA.nil)) rfl))))))
abbrev n_need_path : List PySem.Str := [("arm" : PySem.Str), ("thing" : PySem.Str)]
theorem s_need_path : SSs Γ n_need_path (L2.defScope (top 38)) (L2.defBody (top 38)) b_need_path :=
  (SSs.cons (SS.expr (SE.call (j := 0) (by decide +kernel) (by decide +kernel) rfl (SA.cons (SE.var (by decide +kernel)) SA.nil)))
  (SSs.one (SS.if (ST.not (ST.val (SE.call (j := 0) (by decide +kernel) (by decide +kernel) rfl (SA.cons (SE.var (by decide +kernel)) (SA.cons (SE.var (by decide +kernel)) SA.nil))))) (SSs.one SS.stuck) SSs.nil)))
abbrev n_arm_by : List PySem.Str := [("arm" : PySem.Str), ("path" : PySem.Str), ("here" : PySem.Str), ("step" : PySem.Str)]
theorem s_arm_by : SSs Γ n_arm_by (L2.defScope (top 39)) (L2.defBody (top 39)) b_arm_by :=
  (SSs.cons (SS.asg (SE.var (by decide +kernel)) (SG.tn (by decide +kernel)))
  (SSs.cons (SS.for (SI.walk (SE.var (by decide +kernel))) (SG.tn (by decide +kernel)) (SSs.one (SS.asg (o_item (SED.val (SED.dictOf (by decide +kernel) (SEF.val (SEF.list (by decide +kernel) (o_item (SE.var (by decide +kernel)) SE.int)) lo_list)) do_dictOf) (SE.var (by decide +kernel))) (SG.tn (by decide +kernel)))))
  (SSs.one (SS.ret (SE.var (by decide +kernel))))))
abbrev n_arm_at : List PySem.Str := [("arm" : PySem.Str), ("path" : PySem.Str)]
theorem s_arm_at : SSs Γ n_arm_at (L2.defScope (top 40)) (L2.defBody (top 40)) b_arm_at :=
  (SSs.cons (SS.expr (SE.call (j := 0) (by decide +kernel) (by decide +kernel) rfl (SA.cons (SE.var (by decide +kernel)) (SA.cons (SE.var (by decide +kernel)) SA.nil))))
  (SSs.one (SS.ret (SE.call (j := 0) (by decide +kernel) (by decide +kernel) rfl (SA.cons (SE.var (by decide +kernel)) (SA.cons (SE.var (by decide +kernel)) SA.nil))))))
abbrev n_mirrored_by : List PySem.Str := [("thing" : PySem.Str), ("left" : PySem.Str), ("right" : PySem.Str), ("slack" : PySem.Str), ("holds" : PySem.Str), ("hung" : PySem.Str), ("place" : PySem.Str), ("what" : PySem.Str)]
theorem s_mirrored_by : SSs Γ n_mirrored_by (L2.defScope (top 41)) (L2.defBody (top 41)) b_mirrored_by :=
  (SSs.cons (SS.if (ST.not (ST.val (o_isTup (by decide +kernel) (by decide +kernel) (SE.var (by decide +kernel))))) (SSs.one (SS.ret (SE.var (by decide +kernel)))) SSs.nil)
  (SSs.cons (SS.asg (SE.var (by decide +kernel)) (SG.tt (SGs.cons (SG.tn (by decide +kernel)) (SGs.cons (SG.tn (by decide +kernel)) (SGs.cons (SG.tn (by decide +kernel)) (SGs.cons (SG.tn (by decide +kernel)) (SGs.cons (SG.tn (by decide +kernel)) SGs.nil))))) rfl))
  (SSs.one (SS.ret (SE.tup (SA.cons (SE.var (by decide +kernel)) (SA.cons (SE.var (by decide +kernel)) (SA.cons (SE.var (by decide +kernel)) (SA.cons (SE.var (by decide +kernel)) (SA.cons (o_tuple (by decide +kernel) (SEF.val (SEF.lc (own := [(("place" : PySem.Str), 6), (("what" : PySem.Str), 7)]) (by decide +kernel) rfl (SI.walk (SE.rev (SE.var (by decide +kernel)))) (Keeps.tt (Keep2.cons (Keeps.tn (by decide +kernel) (by decide)) (Keep2.cons (Keeps.tn (by decide +kernel) (by decide)) Keep2.nil)) rfl) STs.nil (SE.tup (SA.cons (SE.bin o_sub SE.int (SE.var (by decide +kernel))) (SA.cons (SE.call (j := 0) (by decide +kernel) (by decide +kernel) rfl (SA.cons (SE.var (by decide +kernel)) SA.nil)) SA.nil)))) lo_lc)) SA.nil))))))))))
abbrev n_mirrored : List PySem.Str := [("arm" : PySem.Str)]
theorem s_mirrored : SSs Γ n_mirrored (L2.defScope (top 42)) (L2.defBody (top 42)) b_mirrored :=
  (SSs.cons (SS.expr (SE.call (j := 0) (by decide +kernel) (by decide +kernel) rfl (SA.cons (SE.var (by decide +kernel)) SA.nil)))
  (SSs.one (SS.ret (SE.call (j := 0) (by decide +kernel) (by decide +kernel) rfl (SA.cons (SE.var (by decide +kernel)) SA.nil)))))
abbrev n_put_by : List PySem.Str := [("arm" : PySem.Str), ("path" : PySem.Str), ("thing" : PySem.Str), ("hung" : PySem.Str), ("place" : PySem.Str), ("what" : PySem.Str)]
theorem s_put_by : SSs Γ n_put_by (L2.defScope (top 43)) (L2.defBody (top 43)) b_put_by :=
  (SSs.cons (SS.if (ST.cmp o_eq (SE.var (by decide +kernel)) (SE.tup SA.nil) rfl) (SSs.one (SS.ret (SE.var (by decide +kernel)))) SSs.nil)
  (SSs.cons (SS.setLc (own := [(("place" : PySem.Str), 4), (("what" : PySem.Str), 5)]) (by decide +kernel) (by decide +kernel) rfl (SI.walk (o_item (SE.var (by decide +kernel)) SE.int)) (Keeps.tt (Keep2.cons (Keeps.tn (by decide +kernel) (by decide)) (Keep2.cons (Keeps.tn (by decide +kernel) (by decide)) Keep2.nil)) rfl) STs.nil (SE.tup (SA.cons (SE.var (by decide +kernel)) (SA.cons (SE.ite (ST.cmp o_eq (SE.var (by decide +kernel)) (o_item (SE.var (by decide +kernel)) SE.int) rfl) (SE.call (j := 0) (by decide +kernel) (by decide +kernel) rfl (SA.cons (SE.var (by decide +kernel)) (SA.cons (SE.slice (SE.var (by decide +kernel)) (SO.yes SE.int) SO.no) (SA.cons (SE.var (by decide +kernel)) SA.nil)))) (SE.var (by decide +kernel))) SA.nil)))  (fun _ _ _ => tF_val lo_lc))
  (SSs.one (SS.ret (SE.bin o_add (SE.slice (SE.var (by decide +kernel)) SO.no (SO.yes SE.int)) (SE.tup (SA.cons (o_tuple (by decide +kernel) (SE.var (by decide +kernel))) SA.nil)))))))
abbrev n_put : List PySem.Str := [("arm" : PySem.Str), ("path" : PySem.Str), ("thing" : PySem.Str), ("found" : PySem.Str), ("many" : PySem.Str), ("most" : PySem.Str)]
theorem s_put : SSs Γ n_put (L2.defScope (top 44)) (L2.defBody (top 44)) b_put :=
  (SSs.cons (SS.expr (SE.call (j := 0) (by decide +kernel) (by decide +kernel) rfl (SA.cons (SE.var (by decide +kernel)) (SA.cons (SE.var (by decide +kernel)) SA.nil))))
  (SSs.cons (SS.if (ST.cmp o_eq (SE.var (by decide +kernel)) (SE.tup SA.nil) rfl) (SSs.one SS.stuck) SSs.nil)
  (SSs.cons (SS.if (SW.st (SW.and (ST.not (ST.val (SE.call (j := 0) (by decide +kernel) (by decide +kernel) rfl (SA.cons (SE.var (by decide +kernel)) SA.nil)))) (SW.and1 (ST.not (ST.val (SE.call (j := 0) (by decide +kernel) (by decide +kernel) rfl (SA.cons (SE.var (by decide +kernel)) SA.nil))))))) (SSs.one SS.stuck) SSs.nil)
  (SSs.cons (SS.asg (SE.call (j := 0) (by decide +kernel) (by decide +kernel) rfl (SA.cons (SE.var (by decide +kernel)) (SA.cons (SE.var (by decide +kernel)) (SA.cons (SE.var (by decide +kernel)) SA.nil)))) (SG.tn (by decide +kernel)))
  (SSs.cons (SS.for (SI.walk (SE.tup (SA.cons (SE.tup (SA.cons (SE.call (j := 0) (by decide +kernel) (by decide +kernel) rfl (SA.cons (SE.var (by decide +kernel)) SA.nil)) (SA.cons (SE.glob (by decide +kernel) rfl) SA.nil))) (SA.cons (SE.tup (SA.cons (SE.call (j := 0) (by decide +kernel) (by decide +kernel) rfl (SA.cons (SE.var (by decide +kernel)) SA.nil)) (SA.cons (SE.glob (by decide +kernel) rfl) SA.nil))) SA.nil)))) (SG.tt (SGs.cons (SG.tn (by decide +kernel)) (SGs.cons (SG.tn (by decide +kernel)) SGs.nil)) rfl) (SSs.one (SS.if (ST.cmp o_gt (SE.var (by decide +kernel)) (SE.var (by decide +kernel)) rfl) (SSs.one SS.stuck) SSs.nil)))
  (SSs.one (SS.ret (SE.var (by decide +kernel)))))))))
abbrev n_is_bead : List PySem.Str := [("arm" : PySem.Str), ("thing" : PySem.Str)]
theorem s_is_bead : SSs Γ n_is_bead (L2.defScope (top 50)) (L2.defBody (top 50)) b_is_bead :=
  (SSs.one (SS.ret (SE.and (SE.call (j := 0) (by decide +kernel) (by decide +kernel) rfl (SA.cons (SE.var (by decide +kernel)) (SA.cons SE.int (SA.cons SE.int SA.nil)))) (SE.and (SE.call (j := 0) (by decide +kernel) (by decide +kernel) rfl (SA.cons (o_item (SE.var (by decide +kernel)) SE.int) (SA.cons (SE.bin o_sub SE.int (o_item (SE.var (by decide +kernel)) SE.int)) (SA.cons (o_item (SE.var (by decide +kernel)) SE.int) SA.nil)))) (SE.and1 (SE.call (j := 0) (by decide +kernel) (by decide +kernel) rfl (SA.cons (o_item (SE.var (by decide +kernel)) SE.int) (SA.cons SE.int (SA.cons (SE.glob (by decide +kernel) rfl) SA.nil)))))))))
abbrev n_are_beads : List PySem.Str := [("arm" : PySem.Str), ("thing" : PySem.Str), ("one" : PySem.Str)]
theorem s_are_beads : SSs Γ n_are_beads (L2.defScope (top 51)) (L2.defBody (top 51)) b_are_beads :=
  (SSs.one (SS.ret (SE.and (SE.call (j := 0) (by decide +kernel) (by decide +kernel) rfl (SA.cons (SE.var (by decide +kernel)) (SA.cons SE.int (SA.cons (o_item (SE.var (by decide +kernel)) SE.int) SA.nil)))) (SE.and (o_all (by decide +kernel) (SEF.val (SEF.lc (own := [(("one" : PySem.Str), 2)]) (by decide +kernel) rfl (SI.walk (SE.var (by decide +kernel))) (Keeps.tn (by decide +kernel) (by decide)) STs.nil (SE.call (j := 0) (by decide +kernel) (by decide +kernel) rfl (SA.cons (SE.var (by decide +kernel)) (SA.cons (SE.var (by decide +kernel)) SA.nil)))) lo_lc)) (SE.and1 (SE.call (j := 0) (by decide +kernel) (by decide +kernel) rfl (SA.cons (SE.var (by decide +kernel)) SA.nil)))))))
abbrev n_is_standing_by : List PySem.Str := [("arm" : PySem.Str), ("thing" : PySem.Str), ("own" : PySem.Str), ("path" : PySem.Str), ("one" : PySem.Str)]
theorem s_is_standing_by : SSs Γ n_is_standing_by (L2.defScope (top 52)) (L2.defBody (top 52)) b_is_standing_by :=
  (SSs.cons (SS.asg (SE.call (j := 0) (by decide +kernel) (by decide +kernel) rfl (SA.cons (SE.var (by decide +kernel)) SA.nil)) (SG.tn (by decide +kernel)))
  (SSs.cons (SS.if (ST.not (ST.val (SE.call (j := 0) (by decide +kernel) (by decide +kernel) rfl (SA.cons (SE.var (by decide +kernel)) (SA.cons (o_len (by decide +kernel) (SE.var (by decide +kernel))) (SA.cons (o_len (by decide +kernel) (SE.var (by decide +kernel))) SA.nil)))))) (SSs.one (SS.ret SE.bl)) SSs.nil)
  (SSs.one (SS.ret (o_all (by decide +kernel) (SEF.val (SEF.lc (own := [(("path" : PySem.Str), 3), (("one" : PySem.Str), 4)]) (by decide +kernel) rfl (SI.zip (by decide +kernel) (SE.var (by decide +kernel)) (SE.var (by decide +kernel))) (Keeps.tt (Keep2.cons (Keeps.tn (by decide +kernel) (by decide)) (Keep2.cons (Keeps.tn (by decide +kernel) (by decide)) Keep2.nil)) rfl) STs.nil (SE.call (j := 0) (by decide +kernel) (by decide +kernel) rfl (SA.cons (SE.call (j := 0) (by decide +kernel) (by decide +kernel) rfl (SA.cons (SE.var (by decide +kernel)) (SA.cons (SE.var (by decide +kernel)) SA.nil))) (SA.cons (SE.var (by decide +kernel)) SA.nil)))) lo_lc))))))
abbrev n_is_standing : List PySem.Str := [("arm" : PySem.Str), ("thing" : PySem.Str)]
theorem s_is_standing : SSs Γ n_is_standing (L2.defScope (top 53)) (L2.defBody (top 53)) b_is_standing :=
  (SSs.cons (SS.expr (SE.call (j := 0) (by decide +kernel) (by decide +kernel) rfl (SA.cons (SE.var (by decide +kernel)) SA.nil)))
  (SSs.one (SS.ret (SE.call (j := 0) (by decide +kernel) (by decide +kernel) rfl (SA.cons (SE.var (by decide +kernel)) (SA.cons (SE.var (by decide +kernel)) SA.nil))))))
abbrev n_need_standing : List PySem.Str := [("arm" : PySem.Str), ("thing" : PySem.Str)]
theorem s_need_standing : SSs Γ n_need_standing (L2.defScope (top 54)) (L2.defBody (top 54)) b_need_standing :=
  (SSs.cons (SS.expr (SE.call (j := 0) (by decide +kernel) (by decide +kernel) rfl (SA.cons (SE.var (by decide +kernel)) SA.nil)))
  (SSs.one (SS.if (ST.not (ST.val (SE.call (j := 0) (by decide +kernel) (by decide +kernel) rfl (SA.cons (SE.var (by decide +kernel)) (SA.cons (SE.var (by decide +kernel)) SA.nil))))) (SSs.one SS.stuck) SSs.nil)))
abbrev n_bare : List PySem.Str := [("arm" : PySem.Str)]
theorem s_bare : SSs Γ n_bare (L2.defScope (top 55)) (L2.defBody (top 55)) b_bare :=
  (SSs.cons (SS.expr (SE.call (j := 0) (by decide +kernel) (by decide +kernel) rfl (SA.cons (SE.var (by decide +kernel)) SA.nil)))
  (SSs.one (SS.ret (SE.bin o_mulx (SE.tup (SA.cons (SE.tup SA.nil) SA.nil)) (o_len (by decide +kernel) (SE.call (j := 0) (by decide +kernel) (by decide +kernel) rfl (SA.cons (SE.var (by decide +kernel)) SA.nil)))))))
abbrev n_Seenu__initu_ : List PySem.Str := [("self" : PySem.Str), ("arm" : PySem.Str), ("standing" : PySem.Str)]
theorem s_Seenu__initu_ : SSs Γ n_Seenu__initu_ (L2.defScope (mem 56 0)) (L2.defBody (mem 56 0)) b_Seenu__initu_ :=
  (SSs.cons (SS.asg (SE.tup (SA.cons (SED.fresh SED.dict0T lo_dict) (SA.cons (SED.fresh SED.dict0T lo_dict) SA.nil))) (SG.tt (SGs.cons (SG.tattr rfl (by decide +kernel) (SE.var (by decide +kernel))) (SGs.cons (SG.tattr rfl (by decide +kernel) (SE.var (by decide +kernel))) SGs.nil)) rfl))
  (SSs.cons (SS.asg (SED.val (SED.dictOf (by decide +kernel) (SEF.val (SEF.lzip (by decide +kernel) (by decide +kernel) (SE.call (j := 0) (by decide +kernel) (by decide +kernel) rfl (SA.cons (SE.var (by decide +kernel)) SA.nil)) (SE.var (by decide +kernel))) lo_lzip)) do_dictOf) (SG.tattr rfl (by decide +kernel) (SE.var (by decide +kernel))))
  (SSs.one (SS.expr (SE.meth (j := 0) rfl (by decide +kernel) (by decide +kernel) rfl (SE.var (by decide +kernel)) (SA.cons (SE.var (by decide +kernel)) (SA.cons (SE.tup SA.nil) SA.nil)))))))
abbrev n_Seen_look : List PySem.Str := [("self" : PySem.Str), ("arm" : PySem.Str), ("path" : PySem.Str), ("some" : PySem.Str), ("place" : PySem.Str), ("what" : PySem.Str), ("weight" : PySem.Str)]
theorem s_Seen_look : SSs Γ n_Seen_look (L2.defScope (mem 56 1)) (L2.defBody (mem 56 1)) b_Seen_look :=
  (SSs.cons (SS.asg (SEF.fresh (SEF.list (by decide +kernel) (o_item (SE.attr rfl (by decide +kernel) (SE.var (by decide +kernel))) (SE.var (by decide +kernel)))) lo_list) (SG.tn (by decide +kernel)))
  (SSs.cons (SS.for (SI.walk (o_item (SE.var (by decide +kernel)) SE.int)) (SG.tt (SGs.cons (SG.tn (by decide +kernel)) (SGs.cons (SG.tn (by decide +kernel)) SGs.nil)) rfl) (SSs.one (SS.expr (SE.append (SE.var (by decide +kernel)) (SE.tup (SA.cons (SE.var (by decide +kernel)) (SA.cons (SE.ite (ST.val (o_isTup (by decide +kernel) (by decide +kernel) (SE.var (by decide +kernel)))) (SE.meth (j := 0) rfl (by decide +kernel) (by decide +kernel) rfl (SE.var (by decide +kernel)) (SA.cons (SE.var (by decide +kernel)) (SA.cons (SE.bin o_add (SE.var (by decide +kernel)) (SE.tup (SA.cons (SE.var (by decide +kernel)) SA.nil))) SA.nil))) (SE.var (by decide +kernel))) SA.nil))) ⟨fun _ => rfl, fun _ => rfl, rfl, fun _ => rfl, fun _ => rfl⟩))))
  (SSs.cons (SS.asg (o_sum (by decide +kernel) (SEF.val (SEF.lc (own := [(("place" : PySem.Str), 4), (("weight" : PySem.Str), 6)]) (by decide +kernel) rfl (SI.walk (SE.var (by decide +kernel))) (Keeps.tt (Keep2.cons (Keeps.tn (by decide +kernel) (by decide)) (Keep2.cons (Keeps.tn (by decide +kernel) (by decide)) Keep2.nil)) rfl) STs.nil (SE.var (by decide +kernel))) lo_lc)) (SG.tsub (SE.attr rfl (by decide +kernel) (SE.var (by decide +kernel))) (SE.var (by decide +kernel))))
  (SSs.cons (SS.asg (o_sum (by decide +kernel) (SEF.val (SEF.lc (own := [(("place" : PySem.Str), 4), (("weight" : PySem.Str), 6)]) (by decide +kernel) rfl (SI.walk (SE.var (by decide +kernel))) (Keeps.tt (Keep2.cons (Keeps.tn (by decide +kernel) (by decide)) (Keep2.cons (Keeps.tn (by decide +kernel) (by decide)) Keep2.nil)) rfl) STs.nil (SE.bin o_mulx (SE.var (by decide +kernel)) (SE.var (by decide +kernel)))) lo_lc)) (SG.tsub (SE.attr rfl (by decide +kernel) (SE.var (by decide +kernel))) (SE.var (by decide +kernel))))
  (SSs.one (SS.ret (o_item (SE.attr rfl (by decide +kernel) (SE.var (by decide +kernel))) (SE.var (by decide +kernel)))))))))
abbrev n_word_by : List PySem.Str := [("arm" : PySem.Str), ("tilt_now" : PySem.Str)]
theorem s_word_by : SSs Γ n_word_by (L2.defScope (top 57)) (L2.defBody (top 57)) b_word_by :=
  (SSs.cons (SS.if (ST.cmp o_lt (SE.var (by decide +kernel)) (SE.bin o_sub SE.int (o_item (SE.var (by decide +kernel)) SE.int)) rfl) (SSs.one (SS.ret (SE.glob (by decide +kernel) rfl))) SSs.nil)
  (SSs.one (SS.ret (SE.ite (ST.cmp o_gt (SE.var (by decide +kernel)) (o_item (SE.var (by decide +kernel)) SE.int) rfl) (SE.glob (by decide +kernel) rfl) (SE.glob (by decide +kernel) rfl)))))
abbrev n_words_by : List PySem.Str := [("arm" : PySem.Str), ("standing" : PySem.Str), ("seen" : PySem.Str), ("path" : PySem.Str)]
theorem s_words_by : SSs Γ n_words_by (L2.defScope (top 58)) (L2.defBody (top 58)) b_words_by :=
  (SSs.cons (SS.asg (SE.new (j := 0) (by decide +kernel) (by decide +kernel) rfl (SA.cons (SE.var (by decide +kernel)) (SA.cons (SE.var (by decide +kernel)) SA.nil))) (SG.tn (by decide +kernel)))
  (SSs.one (SS.ret (SED.val (SED.dcT (own := [(("path" : PySem.Str), 3)]) (by decide +kernel) rfl (SI.walk (SE.call (j := 0) (by decide +kernel) (by decide +kernel) rfl (SA.cons (SE.var (by decide +kernel)) SA.nil))) (Keeps.tn (by decide +kernel) (by decide)) (SE.var (by decide +kernel)) (SE.call (j := 0) (by decide +kernel) (by decide +kernel) rfl (SA.cons (SE.call (j := 0) (by decide +kernel) (by decide +kernel) rfl (SA.cons (SE.var (by decide +kernel)) (SA.cons (SE.var (by decide +kernel)) SA.nil))) (SA.cons (o_item (SE.attr rfl (by decide +kernel) (SE.var (by decide +kernel))) (SE.var (by decide +kernel))) SA.nil)))) do_dc))))
abbrev n_need_place_of : List PySem.Str := [("arm" : PySem.Str), ("standing" : PySem.Str), ("path" : PySem.Str)]
theorem s_need_place_of : SSs Γ n_need_place_of (L2.defScope (top 59)) (L2.defBody (top 59)) b_need_place_of :=
  (SSs.cons (SS.expr (SE.call (j := 0) (by decide +kernel) (by decide +kernel) rfl (SA.cons (SE.var (by decide +kernel)) (SA.cons (SE.var (by decide +kernel)) SA.nil))))
  (SSs.one (SS.expr (SE.call (j := 0) (by decide +kernel) (by decide +kernel) rfl (SA.cons (SE.var (by decide +kernel)) (SA.cons (SE.var (by decide +kernel)) SA.nil))))))
abbrev n_load : List PySem.Str := [("arm" : PySem.Str), ("standing" : PySem.Str), ("path" : PySem.Str)]
theorem s_load : SSs Γ n_load (L2.defScope (top 60)) (L2.defBody (top 60)) b_load :=
  (SSs.cons (SS.expr (SE.call (j := 0) (by decide +kernel) (by decide +kernel) rfl (SA.cons (SE.var (by decide +kernel)) (SA.cons (SE.var (by decide +kernel)) (SA.cons (SE.var (by decide +kernel)) SA.nil)))))
  (SSs.one (SS.ret (o_item (SE.attr rfl (by decide +kernel) (SE.new (j := 0) (by decide +kernel) (by decide +kernel) rfl (SA.cons (SE.var (by decide +kernel)) (SA.cons (SE.var (by decide +kernel)) SA.nil)))) (SE.var (by decide +kernel))))))
abbrev n_tilt : List PySem.Str := [("arm" : PySem.Str), ("standing" : PySem.Str), ("path" : PySem.Str)]
theorem s_tilt : SSs Γ n_tilt (L2.defScope (top 61)) (L2.defBody (top 61)) b_tilt :=
  (SSs.cons (SS.expr (SE.call (j := 0) (by decide +kernel) (by decide +kernel) rfl (SA.cons (SE.var (by decide +kernel)) (SA.cons (SE.var (by decide +kernel)) (SA.cons (SE.var (by decide +kernel)) SA.nil)))))
  (SSs.one (SS.ret (o_item (SE.attr rfl (by decide +kernel) (SE.new (j := 0) (by decide +kernel) (by decide +kernel) rfl (SA.cons (SE.var (by decide +kernel)) (SA.cons (SE.var (by decide +kernel)) SA.nil)))) (SE.var (by decide +kernel))))))
abbrev n_word : List PySem.Str := [("arm" : PySem.Str), ("standing" : PySem.Str), ("path" : PySem.Str)]
theorem s_word : SSs Γ n_word (L2.defScope (top 62)) (L2.defBody (top 62)) b_word :=
  (SSs.cons (SS.expr (SE.call (j := 0) (by decide +kernel) (by decide +kernel) rfl (SA.cons (SE.var (by decide +kernel)) (SA.cons (SE.var (by decide +kernel)) (SA.cons (SE.var (by decide +kernel)) SA.nil)))))
  (SSs.one (SS.ret (o_item (SE.call (j := 0) (by decide +kernel) (by decide +kernel) rfl (SA.cons (SE.var (by decide +kernel)) (SA.cons (SE.var (by decide +kernel)) SA.nil))) (SE.var (by decide +kernel))))))
abbrev n__law_cell_at : List PySem.Str := [("_law_script" : PySem.Str), ("_law_k" : PySem.Str)]
theorem s__law_cell_at : SSs Γ n__law_cell_at (L2.defScope (top 64)) (L2.defBody (top 64)) b__law_cell_at :=
  (SSs.cons (SS.if (ST.cmp o_lt (SE.var (by decide +kernel)) (o_len (by decide +kernel) (SE.var (by decide +kernel))) rfl) (SSs.one (SS.ret (o_item (SE.var (by decide +kernel)) (SE.var (by decide +kernel))))) SSs.nil)
  (SSs.one (SS.ret SE.int)))
abbrev n__law_pen : List PySem.Str := [("_law_cell" : PySem.Str)]
theorem s__law_pen : SSs Γ n__law_pen (L2.defScope (top 65)) (L2.defBody (top 65)) b__law_pen :=
  (SSs.one (SS.ret (SEF.fresh (SEF.lst (SA.cons (o_max2 (by decide +kernel) SE.int (SE.bin o_sub (SE.var (by decide +kernel)) (SE.bin o_pow SE.int SE.int))) (SA.cons (SE.bin o_add (SE.bin o_mod (SE.var (by decide +kernel)) SE.int) SE.int) (SA.cons SE.int SA.nil)))) lo_lst)))
abbrev n__law_draw : List PySem.Str := [("_law_pen_here" : PySem.Str), ("_law_count_own" : PySem.Str), ("_law_mixed" : PySem.Str), ("_law_found" : PySem.Str)]
theorem s__law_draw : SSs Γ n__law_draw (L2.defScope (top 66)) (L2.defBody (top 66)) b__law_draw :=
  (SSs.cons (SS.if (ST.cmp o_gt (o_item (SE.var (by decide +kernel)) SE.int) SE.int rfl) (SSs.cons (SS.asg (SE.bin o_mod (o_item (SE.var (by decide +kernel)) SE.int) (SE.var (by decide +kernel))) (SG.tn (by decide +kernel)))
  (SSs.cons (SS.asg (SE.bin o_fdiv (o_item (SE.var (by decide +kernel)) SE.int) (SE.var (by decide +kernel))) (SG.tsub (SE.var (by decide +kernel)) SE.int))
  (SSs.one (SS.ret (SE.var (by decide +kernel)))))) SSs.nil)
  (SSs.cons (SS.asg (SE.bin o_add (o_item (SE.var (by decide +kernel)) SE.int) SE.int) (SG.tsub (SE.var (by decide +kernel)) SE.int))
  (SSs.cons (SS.asg (SE.bin o_mod (SE.bin o_add (SE.bin o_add (SE.bin o_mulx (o_item (SE.var (by decide +kernel)) SE.int) SE.int) (SE.bin o_mulx SE.int (o_item (SE.var (by decide +kernel)) SE.int))) SE.int) SE.int) (SG.tsub (SE.var (by decide +kernel)) SE.int))
  (SSs.cons (SS.asg (SE.bin o_mod (SE.bin o_add (SE.bin o_add (SE.bin o_mulx (o_item (SE.var (by decide +kernel)) SE.int) (o_item (SE.var (by decide +kernel)) SE.int)) (SE.bin o_mulx SE.int (o_item (SE.var (by decide +kernel)) SE.int))) SE.int) SE.int) (SG.tn (by decide +kernel)))
  (SSs.cons (SS.asg (SE.bin o_mod (SE.bin o_add (SE.bin o_mulx (SE.var (by decide +kernel)) (SE.var (by decide +kernel))) (SE.bin o_mulx SE.int (SE.var (by decide +kernel)))) SE.int) (SG.tn (by decide +kernel)))
  (SSs.one (SS.ret (SE.bin o_mod (SE.bin o_fdiv (SE.var (by decide +kernel)) SE.int) (SE.var (by decide +kernel))))))))))
abbrev n__law_kind : List PySem.Str := [("_law_e" : PySem.Str), ("_law_marks" : PySem.Str), ("_law_words" : PySem.Str)]
theorem s__law_kind : SSs Γ n__law_kind (L2.defScope (top 67)) (L2.defBody (top 67)) b__law_kind :=
  (SSs.cons (SS.asg (SEF.val (SEF.lst (SA.cons (SE.isE (by decide +kernel) (by decide +kernel) (SE.var (by decide +kernel))) (SA.cons (SE.isE (by decide +kernel) (by decide +kernel) (SE.var (by decide +kernel))) (SA.cons (SE.isE (by decide +kernel) (by decide +kernel) (SE.var (by decide +kernel))) (SA.cons (SE.isE (by decide +kernel) (by decide +kernel) (SE.var (by decide +kernel))) SA.nil))))) lo_lst) (SG.tn (by decide +kernel)))
  (SSs.cons (SS.asg (SE.bin o_add (SE.var (by decide +kernel)) (SEF.val (SEF.lst (SA.cons (SE.isE (by decide +kernel) (by decide +kernel) (SE.var (by decide +kernel))) (SA.cons (SE.isE (by decide +kernel) (by decide +kernel) (SE.var (by decide +kernel))) (SA.cons (SE.isE (by decide +kernel) (by decide +kernel) (SE.var (by decide +kernel))) (SA.cons (SE.isE (by decide +kernel) (by decide +kernel) (SE.var (by decide +kernel))) SA.nil))))) lo_lst)) (SG.tn (by decide +kernel)))
  (SSs.cons (SS.asg (SE.bin o_add (SE.var (by decide +kernel)) (SEF.val (SEF.lst (SA.cons (SE.isE (by decide +kernel) (by decide +kernel) (SE.var (by decide +kernel))) (SA.cons (SE.isE (by decide +kernel) (by decide +kernel) (SE.var (by decide +kernel))) (SA.cons (SE.isE (by decide +kernel) (by decide +kernel) (SE.var (by decide +kernel))) (SA.cons (SE.isE (by decide +kernel) (by decide +kernel) (SE.var (by decide +kernel))) SA.nil))))) lo_lst)) (SG.tn (by decide +kernel)))
  (SSs.cons (SS.asg (SE.bin o_add (SE.var (by decide +kernel)) (SEF.val (SEF.lst (SA.cons (SE.isE (by decide +kernel) (by decide +kernel) (SE.var (by decide +kernel))) (SA.cons (SE.isE (by decide +kernel) (by decide +kernel) (SE.var (by decide +kernel))) SA.nil))) lo_lst)) (SG.tn (by decide +kernel)))
  (SSs.cons (SS.asg (SEF.val (SEF.lst (SA.cons (SE.str rfl) (SA.cons (SE.str rfl) (SA.cons (SE.str rfl) (SA.cons (SE.str rfl) (SA.cons (SE.str rfl) (SA.cons (SE.str rfl) (SA.cons (SE.str rfl) (SA.cons (SE.str rfl) (SA.cons (SE.str rfl) (SA.cons (SE.str rfl) (SA.cons (SE.str rfl) (SA.cons (SE.str rfl) SA.nil))))))))))))) lo_lst) (SG.tn (by decide +kernel)))
  (SSs.cons (SS.if (SW.st (SW.or (ST.cmp o_ne (SE.countL (SE.var (by decide +kernel)) SE.bl ⟨fun _ => rfl, fun _ => rfl, rfl, fun _ => rfl, fun _ => rfl⟩) SE.int rfl) (SW.or1 (ST.not (ST.val (SE.isV (by decide +kernel) (by decide +kernel) (by decide +kernel) (SE.var (by decide +kernel)))))))) (SSs.one (SS.ret (SE.str rfl))) SSs.nil)
  (SSs.one (SS.ret (o_item (SE.bin o_add (SE.var (by decide +kernel)) (SEF.val (SEF.lst (SA.cons (SE.str rfl) (SA.cons (SE.str rfl) SA.nil))) lo_lst)) (SE.index (SE.var (by decide +kernel)) SE.bl ⟨fun _ => rfl, fun _ => rfl, rfl, fun _ => rfl, fun _ => rfl⟩))))))))))
abbrev n__law_arms_right : List PySem.Str := [("_law_mobile" : PySem.Str), ("_law_lower" : PySem.Str)]
theorem s__law_arms_right : SSs Γ n__law_arms_right (L2.defScope (top 68)) (L2.defBody (top 68)) b__law_arms_right :=
  (SSs.cons (SS.if (SW.st (SW.or (ST.cmp o_isBot (SE.callk0 (by decide +kernel) (List.Mem.head _) rfl rfl (SK.cons (SE.var (by decide +kernel)) SK.nil)) SE.bl rfl) (SW.or (ST.cmp o_ne (SE.callk0 (by decide +kernel) (List.Mem.head _) rfl rfl (SK.cons (SE.var (by decide +kernel)) SK.nil)) (SE.tup (SA.cons (SE.tup SA.nil) (SA.cons (SE.tup (SA.cons SE.int SA.nil)) SA.nil))) rfl) (SW.or1 (ST.cmp o_ne (SE.callk0 (by decide +kernel) (List.Mem.head _) rfl rfl (SK.cons (SE.tup (SA.cons SE.int SA.nil)) (SK.cons (SE.var (by decide +kernel)) SK.nil))) (SE.var (by decide +kernel)) rfl))))) (SSs.one (SS.ret SE.bl)) SSs.nil)
  (SSs.cons (SS.if (ST.cmp o_ne (SE.callk0 (by decide +kernel) (List.Mem.head _) rfl rfl (SK.cons (SE.var (by decide +kernel)) SK.nil)) (SE.tup (SA.cons SE.int (SA.cons SE.int (SA.cons SE.int (SA.cons SE.int (SA.cons (SE.tup (SA.cons (SE.tup (SA.cons (SE.un o_neg SE.int) (SA.cons (SE.var (by decide +kernel)) SA.nil))) (SA.cons (SE.tup (SA.cons SE.int (SA.cons SE.int SA.nil))) SA.nil))) SA.nil)))))) rfl) (SSs.one (SS.ret SE.bl)) SSs.nil)
  (SSs.one (SS.ret (SE.cmp o_eq (SE.callk0 (by decide +kernel) (List.Mem.head _) rfl rfl (SK.cons SE.int (SK.cons (SE.tup (SA.cons SE.int SA.nil)) (SK.cons (SE.var (by decide +kernel)) SK.nil)))) (SE.tup (SA.cons SE.int (SA.cons SE.int (SA.cons SE.int (SA.cons SE.int (SA.cons (SE.tup (SA.cons (SE.tup (SA.cons (SE.un o_neg SE.int) (SA.cons SE.int SA.nil))) (SA.cons (SE.tup (SA.cons SE.int (SA.cons SE.int SA.nil))) SA.nil))) SA.nil)))))) rfl)))))
abbrev n__law_beads_right : List PySem.Str := [("_law_mobile" : PySem.Str), ("_law_spot" : PySem.Str), ("_law_heft" : PySem.Str), ("_law_kept" : PySem.Str), ("_law_told" : PySem.Str), ("_law_words" : PySem.Str)]
theorem s__law_beads_right : SSs Γ n__law_beads_right (L2.defScope (top 69)) (L2.defBody (top 69)) b__law_beads_right :=
  (SSs.cons (SS.asg (SE.tup (SA.cons (SE.tup SA.nil) (SA.cons (SE.tup (SA.cons (SE.tup (SA.cons (SE.var (by decide +kernel)) (SA.cons (SE.var (by decide +kernel)) SA.nil))) SA.nil)) SA.nil))) (SG.tn (by decide +kernel)))
  (SSs.cons (SS.if (SW.st (SW.or (ST.cmp o_isBot (SE.callk0 (by decide +kernel) (List.Mem.head _) rfl rfl (SK.cons (SE.var (by decide +kernel)) (SK.cons (SE.var (by decide +kernel)) SK.nil))) SE.bl rfl) (SW.or1 (ST.cmp o_ne (SE.callk0 (by decide +kernel) (List.Mem.head _) rfl rfl (SK.cons (SE.var (by decide +kernel)) SK.nil)) (SE.tup (SA.cons (SE.tup SA.nil) (SA.cons (SE.tup SA.nil) SA.nil))) rfl)))) (SSs.one (SS.ret SE.bl)) SSs.nil)
  (SSs.cons (SS.asg (SEF.val (SEF.lst (SA.cons (SE.callk0 (by decide +kernel) (List.Mem.head _) rfl rfl (SK.cons (SE.tup SA.nil) (SK.cons (SE.var (by decide +kernel)) (SK.cons (SE.var (by decide +kernel)) SK.nil)))) (SA.cons (SE.callk0 (by decide +kernel) (List.Mem.head _) rfl rfl (SK.cons (SE.tup (SA.cons SE.int SA.nil)) (SK.cons (SE.var (by decide +kernel)) (SK.cons (SE.var (by decide +kernel)) SK.nil)))) SA.nil))) lo_lst) (SG.tn (by decide +kernel)))
  (SSs.cons (SS.asg (SE.bin o_add (SE.var (by decide +kernel)) (SEF.val (SEF.lst (SA.cons (SE.callk0 (by decide +kernel) (List.Mem.head _) rfl rfl (SK.cons (SE.tup SA.nil) (SK.cons (SE.var (by decide +kernel)) (SK.cons (SE.var (by decide +kernel)) SK.nil)))) (SA.cons (SE.callk0 (by decide +kernel) (List.Mem.head _) rfl rfl (SK.cons (SE.tup (SA.cons SE.int SA.nil)) (SK.cons (SE.var (by decide +kernel)) (SK.cons (SE.var (by decide +kernel)) SK.nil)))) SA.nil))) lo_lst)) (SG.tn (by decide +kernel)))
  (SSs.cons (SS.if (ST.cmp o_ne (SE.var (by decide +kernel)) (SEF.val (SEF.lst (SA.cons (SE.bin o_add SE.int (SE.var (by decide +kernel))) (SA.cons (SE.var (by decide +kernel)) (SA.cons (SE.bin o_sub (SE.bin o_mulx SE.int (SE.var (by decide +kernel))) SE.int) (SA.cons (SE.bin o_mulx (SE.var (by decide +kernel)) (SE.var (by decide +kernel))) SA.nil))))) lo_lst) rfl) (SSs.one (SS.ret SE.bl)) SSs.nil)
  (SSs.cons (SS.asg (SEF.val (SEF.lst (SA.cons (SE.callk0 (by decide +kernel) (List.Mem.head _) rfl rfl (SK.cons (SE.tup SA.nil) (SK.cons (SE.var (by decide +kernel)) (SK.cons (SE.var (by decide +kernel)) SK.nil)))) (SA.cons (SE.callk0 (by decide +kernel) (List.Mem.head _) rfl rfl (SK.cons (SE.tup (SA.cons SE.int SA.nil)) (SK.cons (SE.var (by decide +kernel)) (SK.cons (SE.var (by decide +kernel)) SK.nil)))) SA.nil))) lo_lst) (SG.tn (by decide +kernel)))
  (SSs.one (SS.ret (SE.cmp o_eq (SE.var (by decide +kernel)) (SEF.val (SEF.lst (SA.cons (o_item (SEF.val (SEF.lst (SA.cons (SE.str rfl) (SA.cons (SE.str rfl) (SA.cons (SE.str rfl) SA.nil)))) lo_lst) (SE.bin o_sub (SE.var (by decide +kernel)) SE.int)) (SA.cons (o_item (SEF.val (SEF.lst (SA.cons (SE.str rfl) (SA.cons (SE.str rfl) (SA.cons (SE.str rfl) SA.nil)))) lo_lst) (SE.bin o_add (SE.var (by decide +kernel)) SE.int)) SA.nil))) lo_lst) rfl)))))))))
abbrev n__law_errors_right : List PySem.Str := [("_law_some" : PySem.Str), ("_law_words" : PySem.Str), ("_law_pair" : PySem.Str), ("_law_one" : PySem.Str)]
theorem s__law_errors_right : SSs Γ n__law_errors_right (L2.defScope (top 70)) (L2.defBody (top 70)) b__law_errors_right :=
  (SSs.cons (SS.asg (SEF.val (SEF.lst (SA.cons (SE.newE (by decide +kernel)) (SA.cons (SE.newE (by decide +kernel)) (SA.cons (SE.newE (by decide +kernel)) (SA.cons (SE.newE (by decide +kernel)) (SA.cons (SE.newE (by decide +kernel)) (SA.cons (SE.newE (by decide +kernel)) (SA.cons (SE.newE (by decide +kernel)) SA.nil)))))))) lo_lst) (SG.tn (by decide +kernel)))
  (SSs.cons (SS.asg (SE.bin o_add (SE.var (by decide +kernel)) (SEF.val (SEF.lst (SA.cons (SE.newE (by decide +kernel)) (SA.cons (SE.newE (by decide +kernel)) (SA.cons (SE.newE (by decide +kernel)) (SA.cons (SE.newE (by decide +kernel)) (SA.cons (SE.newE (by decide +kernel)) (SA.cons (SE.newE (by decide +kernel)) (SA.cons (SE.newTm (by decide +kernel) SE.int SE.int) SA.nil)))))))) lo_lst)) (SG.tn (by decide +kernel)))
  (SSs.cons (SS.asg (SEF.val (SEF.lst (SA.cons (SE.str rfl) (SA.cons (SE.str rfl) (SA.cons (SE.str rfl) (SA.cons (SE.str rfl) (SA.cons (SE.str rfl) (SA.cons (SE.str rfl) (SA.cons (SE.str rfl) (SA.cons (SE.str rfl) (SA.cons (SE.str rfl) (SA.cons (SE.str rfl) (SA.cons (SE.str rfl) (SA.cons (SE.str rfl) SA.nil))))))))))))) lo_lst) (SG.tn (by decide +kernel)))
  (SSs.cons (SS.if (ST.cmp o_ne (SEF.val (SEF.lc (own := [(("_law_one" : PySem.Str), 3)]) (by decide +kernel) rfl (SI.walk (SE.var (by decide +kernel))) (Keeps.tn (by decide +kernel) (by decide)) STs.nil (SE.call (j := 0) (by decide +kernel) (by decide +kernel) rfl (SA.cons (SE.var (by decide +kernel)) SA.nil))) lo_lc) (SE.bin o_add (SE.var (by decide +kernel)) (SEF.val (SEF.lst (SA.cons (SE.str rfl) (SA.cons (SE.str rfl) SA.nil))) lo_lst)) rfl) (SSs.one (SS.ret SE.bl)) SSs.nil)
  (SSs.cons (SS.if (ST.not (ST.val (o_all (by decide +kernel) (SEF.val (SEF.lc (own := [(("_law_one" : PySem.Str), 3)]) (by decide +kernel) rfl (SI.walk (SE.var (by decide +kernel))) (Keeps.tn (by decide +kernel) (by decide)) STs.nil (SE.isT (by decide +kernel) (by decide +kernel) (SE.var (by decide +kernel)))) lo_lc)))) (SSs.one (SS.ret SE.bl)) SSs.nil)
  (SSs.cons (SS.asg (SEF.val (SEF.lst (SA.cons (SE.newTm (by decide +kernel) SE.int SE.int) (SA.cons (SE.newTmK (by decide +kernel) (SK.cons SE.int (SK.cons SE.int SK.nil))) SA.nil))) lo_lst) (SG.tn (by decide +kernel)))
  (SSs.one (SS.ret (SE.cmp o_eq (SEF.val (SEF.lc (own := [(("_law_one" : PySem.Str), 3)]) (by decide +kernel) rfl (SI.walk (SE.var (by decide +kernel))) (Keeps.tn (by decide +kernel) (by decide)) STs.nil (SE.tup (SA.cons (SE.attrE rfl (by decide +kernel) (SE.var (by decide +kernel))) (SA.cons (SE.attrE rfl (by decide +kernel) (SE.var (by decide +kernel))) SA.nil)))) lo_lc) (SE.bin o_mulx (SEF.val (SEF.lst (SA.cons (SE.tup (SA.cons SE.int (SA.cons SE.int SA.nil))) SA.nil)) lo_lst) SE.int) rfl)))))))))
abbrev n_law : List PySem.Str := [("_law_script" : PySem.Str), ("_law_lower" : PySem.Str), ("_law_mobile" : PySem.Str), ("_law_k" : PySem.Str), ("_law_pen_here" : PySem.Str), ("_law_lap" : PySem.Str)]
theorem s_law : SSs Γ n_law (L2.defScope (top 71)) (L2.defBody (top 71)) b_law :=
  (SSs.cons (SS.asg (SE.tup (SA.cons SE.int (SA.cons SE.int (SA.cons SE.int (SA.cons SE.int (SA.cons (SE.tup SA.nil) SA.nil)))))) (SG.tn (by decide +kernel)))
  (SSs.cons (SS.asg (SE.tup (SA.cons SE.int (SA.cons SE.int (SA.cons SE.int (SA.cons SE.int (SA.cons (SE.tup (SA.cons (SE.tup (SA.cons (SE.un o_neg SE.int) (SA.cons SE.int SA.nil))) (SA.cons (SE.tup (SA.cons SE.int (SA.cons (SE.var (by decide +kernel)) SA.nil))) SA.nil))) SA.nil)))))) (SG.tn (by decide +kernel)))
  (SSs.cons (SS.if (SW.st (SW.or (ST.not (ST.val (SE.call0 (j := 0) (by decide +kernel) (by decide +kernel) rfl))) (SW.or1 (ST.not (ST.val (SE.call (j := 0) (by decide +kernel) (by decide +kernel) rfl (SA.cons (SE.var (by decide +kernel)) (SA.cons (SE.var (by decide +kernel)) SA.nil)))))))) (SSs.one (SS.ret SE.bl)) SSs.nil)
  (SSs.cons (SS.for (SI.range1 (by decide +kernel) (o_max2 (by decide +kernel) SE.int (o_min2 (by decide +kernel) (o_len (by decide +kernel) (SE.var (by decide +kernel))) SE.int))) (SG.tn (by decide +kernel)) (SSs.cons (SS.asg (SE.call (j := 0) (by decide +kernel) (by decide +kernel) rfl (SA.cons (SE.call (j := 0) (by decide +kernel) (by decide +kernel) rfl (SA.cons (SE.var (by decide +kernel)) (SA.cons (SE.var (by decide +kernel)) SA.nil))) SA.nil)) (SG.tn (by decide +kernel)))
  (SSs.one (SS.for (SI.range1 (by decide +kernel) SE.int) (SG.tn (by decide +kernel)) (SSs.one (SS.if (ST.not (ST.val (SE.call (j := 0) (by decide +kernel) (by decide +kernel) rfl (SA.cons (SE.var (by decide +kernel)) (SA.cons (SE.bin o_sub (SE.call (j := 0) (by decide +kernel) (by decide +kernel) rfl (SA.cons (SE.var (by decide +kernel)) (SA.cons SE.int SA.nil))) SE.int) (SA.cons (SE.bin o_add SE.int (SE.call (j := 0) (by decide +kernel) (by decide +kernel) rfl (SA.cons (SE.var (by decide +kernel)) (SA.cons SE.int SA.nil)))) SA.nil)))))) (SSs.one (SS.ret SE.bl)) SSs.nil))))))
  (SSs.one (SS.ret SE.bl))))))
end Dn

namespace Dn
def dd_is_whole : He.DefD := ⟨(("is_whole" : PySem.Str), none), ("is_whole" : PySem.Str), ("is_whole" : PySem.Str), L2.defArgs (top 24), L2.defBody (top 24), L2.defScope (top 24), [], []⟩
def dd_is_within : He.DefD := ⟨(("is_within" : PySem.Str), none), ("is_within" : PySem.Str), ("is_within" : PySem.Str), L2.defArgs (top 25), L2.defBody (top 25), L2.defScope (top 25), [], []⟩
def dd_is_long : He.DefD := ⟨(("is_long" : PySem.Str), none), ("is_long" : PySem.Str), ("is_long" : PySem.Str), L2.defArgs (top 26), L2.defBody (top 26), L2.defScope (top 26), [], []⟩
def dd_rises : He.DefD := ⟨(("rises" : PySem.Str), none), ("rises" : PySem.Str), ("rises" : PySem.Str), L2.defArgs (top 27), L2.defBody (top 27), L2.defScope (top 27), [], []⟩
def dd_falls_not : He.DefD := ⟨(("falls_not" : PySem.Str), none), ("falls_not" : PySem.Str), ("falls_not" : PySem.Str), L2.defArgs (top 28), L2.defBody (top 28), L2.defScope (top 28), [], []⟩
def dd_is_arm_by : He.DefD := ⟨(("is_arm_by" : PySem.Str), none), ("is_arm_by" : PySem.Str), ("is_arm_by" : PySem.Str), L2.defArgs (top 29), L2.defBody (top 29), L2.defScope (top 29), [], []⟩
def dd_is_weight : He.DefD := ⟨(("is_weight" : PySem.Str), none), ("is_weight" : PySem.Str), ("is_weight" : PySem.Str), L2.defArgs (top 30), L2.defBody (top 30), L2.defScope (top 30), [], []⟩
def dd_arms_in : He.DefD := ⟨(("arms_in" : PySem.Str), none), ("arms_in" : PySem.Str), ("arms_in" : PySem.Str), L2.defArgs (top 31), L2.defBody (top 31), L2.defScope (top 31), [], []⟩
def dd_deep_of : He.DefD := ⟨(("deep_of" : PySem.Str), none), ("deep_of" : PySem.Str), ("deep_of" : PySem.Str), L2.defArgs (top 32), L2.defBody (top 32), L2.defScope (top 32), [], []⟩
def dd_is_arm : He.DefD := ⟨(("is_arm" : PySem.Str), none), ("is_arm" : PySem.Str), ("is_arm" : PySem.Str), L2.defArgs (top 33), L2.defBody (top 33), L2.defScope (top 33), [], []⟩
def dd_need_arm : He.DefD := ⟨(("need_arm" : PySem.Str), none), ("need_arm" : PySem.Str), ("need_arm" : PySem.Str), L2.defArgs (top 34), L2.defBody (top 34), L2.defScope (top 34), [], []⟩
def dd_paths_by : He.DefD := ⟨(("paths_by" : PySem.Str), none), ("paths_by" : PySem.Str), ("paths_by" : PySem.Str), L2.defArgs (top 35), L2.defBody (top 35), L2.defScope (top 35), [], []⟩
def dd_paths : He.DefD := ⟨(("paths" : PySem.Str), none), ("paths" : PySem.Str), ("paths" : PySem.Str), L2.defArgs (top 36), L2.defBody (top 36), L2.defScope (top 36), [], []⟩
def dd_is_path : He.DefD := ⟨(("is_path" : PySem.Str), none), ("is_path" : PySem.Str), ("is_path" : PySem.Str), L2.defArgs (top 37), L2.defBody (top 37), L2.defScope (top 37), [], []⟩
def dd_need_path : He.DefD := ⟨(("need_path" : PySem.Str), none), ("need_path" : PySem.Str), ("need_path" : PySem.Str), L2.defArgs (top 38), L2.defBody (top 38), L2.defScope (top 38), [], []⟩
def dd_arm_by : He.DefD := ⟨(("arm_by" : PySem.Str), none), ("arm_by" : PySem.Str), ("arm_by" : PySem.Str), L2.defArgs (top 39), L2.defBody (top 39), L2.defScope (top 39), [], []⟩
def dd_arm_at : He.DefD := ⟨(("arm_at" : PySem.Str), none), ("arm_at" : PySem.Str), ("arm_at" : PySem.Str), L2.defArgs (top 40), L2.defBody (top 40), L2.defScope (top 40), [], []⟩
def dd_mirrored_by : He.DefD := ⟨(("mirrored_by" : PySem.Str), none), ("mirrored_by" : PySem.Str), ("mirrored_by" : PySem.Str), L2.defArgs (top 41), L2.defBody (top 41), L2.defScope (top 41), [], []⟩
def dd_mirrored : He.DefD := ⟨(("mirrored" : PySem.Str), none), ("mirrored" : PySem.Str), ("mirrored" : PySem.Str), L2.defArgs (top 42), L2.defBody (top 42), L2.defScope (top 42), [], []⟩
def dd_put_by : He.DefD := ⟨(("put_by" : PySem.Str), none), ("put_by" : PySem.Str), ("put_by" : PySem.Str), L2.defArgs (top 43), L2.defBody (top 43), L2.defScope (top 43), [], []⟩
def dd_put : He.DefD := ⟨(("put" : PySem.Str), none), ("put" : PySem.Str), ("put" : PySem.Str), L2.defArgs (top 44), L2.defBody (top 44), L2.defScope (top 44), [], []⟩
def dd_is_bead : He.DefD := ⟨(("is_bead" : PySem.Str), none), ("is_bead" : PySem.Str), ("is_bead" : PySem.Str), L2.defArgs (top 50), L2.defBody (top 50), L2.defScope (top 50), [], []⟩
def dd_are_beads : He.DefD := ⟨(("are_beads" : PySem.Str), none), ("are_beads" : PySem.Str), ("are_beads" : PySem.Str), L2.defArgs (top 51), L2.defBody (top 51), L2.defScope (top 51), [], []⟩
def dd_is_standing_by : He.DefD := ⟨(("is_standing_by" : PySem.Str), none), ("is_standing_by" : PySem.Str), ("is_standing_by" : PySem.Str), L2.defArgs (top 52), L2.defBody (top 52), L2.defScope (top 52), [], []⟩
def dd_is_standing : He.DefD := ⟨(("is_standing" : PySem.Str), none), ("is_standing" : PySem.Str), ("is_standing" : PySem.Str), L2.defArgs (top 53), L2.defBody (top 53), L2.defScope (top 53), [], []⟩
def dd_need_standing : He.DefD := ⟨(("need_standing" : PySem.Str), none), ("need_standing" : PySem.Str), ("need_standing" : PySem.Str), L2.defArgs (top 54), L2.defBody (top 54), L2.defScope (top 54), [], []⟩
def dd_bare : He.DefD := ⟨(("bare" : PySem.Str), none), ("bare" : PySem.Str), ("bare" : PySem.Str), L2.defArgs (top 55), L2.defBody (top 55), L2.defScope (top 55), [], []⟩
def dd_Seenu__initu_ : He.DefD := ⟨(("Seen" : PySem.Str), some ("__init__" : PySem.Str)), ("__init__" : PySem.Str), ("Seen.__init__" : PySem.Str), L2.defArgs (mem 56 0), L2.defBody (mem 56 0), L2.defScope (mem 56 0), [], []⟩
def dd_Seen_look : He.DefD := ⟨(("Seen" : PySem.Str), some ("look" : PySem.Str)), ("look" : PySem.Str), ("Seen.look" : PySem.Str), L2.defArgs (mem 56 1), L2.defBody (mem 56 1), L2.defScope (mem 56 1), [], []⟩
def dd_word_by : He.DefD := ⟨(("word_by" : PySem.Str), none), ("word_by" : PySem.Str), ("word_by" : PySem.Str), L2.defArgs (top 57), L2.defBody (top 57), L2.defScope (top 57), [], []⟩
def dd_words_by : He.DefD := ⟨(("words_by" : PySem.Str), none), ("words_by" : PySem.Str), ("words_by" : PySem.Str), L2.defArgs (top 58), L2.defBody (top 58), L2.defScope (top 58), [], []⟩
def dd_need_place_of : He.DefD := ⟨(("need_place_of" : PySem.Str), none), ("need_place_of" : PySem.Str), ("need_place_of" : PySem.Str), L2.defArgs (top 59), L2.defBody (top 59), L2.defScope (top 59), [], []⟩
def dd_load : He.DefD := ⟨(("load" : PySem.Str), none), ("load" : PySem.Str), ("load" : PySem.Str), L2.defArgs (top 60), L2.defBody (top 60), L2.defScope (top 60), [], []⟩
def dd_tilt : He.DefD := ⟨(("tilt" : PySem.Str), none), ("tilt" : PySem.Str), ("tilt" : PySem.Str), L2.defArgs (top 61), L2.defBody (top 61), L2.defScope (top 61), [], []⟩
def dd_word : He.DefD := ⟨(("word" : PySem.Str), none), ("word" : PySem.Str), ("word" : PySem.Str), L2.defArgs (top 62), L2.defBody (top 62), L2.defScope (top 62), [], []⟩
def dd__law_cell_at : He.DefD := ⟨(("_law_cell_at" : PySem.Str), none), ("_law_cell_at" : PySem.Str), ("_law_cell_at" : PySem.Str), L2.defArgs (top 64), L2.defBody (top 64), L2.defScope (top 64), [], []⟩
def dd__law_pen : He.DefD := ⟨(("_law_pen" : PySem.Str), none), ("_law_pen" : PySem.Str), ("_law_pen" : PySem.Str), L2.defArgs (top 65), L2.defBody (top 65), L2.defScope (top 65), [], []⟩
def dd__law_draw : He.DefD := ⟨(("_law_draw" : PySem.Str), none), ("_law_draw" : PySem.Str), ("_law_draw" : PySem.Str), L2.defArgs (top 66), L2.defBody (top 66), L2.defScope (top 66), [], []⟩
def dd__law_kind : He.DefD := ⟨(("_law_kind" : PySem.Str), none), ("_law_kind" : PySem.Str), ("_law_kind" : PySem.Str), L2.defArgs (top 67), L2.defBody (top 67), L2.defScope (top 67), [], []⟩
def dd__law_arms_right : He.DefD := ⟨(("_law_arms_right" : PySem.Str), none), ("_law_arms_right" : PySem.Str), ("_law_arms_right" : PySem.Str), L2.defArgs (top 68), L2.defBody (top 68), L2.defScope (top 68), [], []⟩
def dd__law_beads_right : He.DefD := ⟨(("_law_beads_right" : PySem.Str), none), ("_law_beads_right" : PySem.Str), ("_law_beads_right" : PySem.Str), L2.defArgs (top 69), L2.defBody (top 69), L2.defScope (top 69), [], []⟩
def dd__law_errors_right : He.DefD := ⟨(("_law_errors_right" : PySem.Str), none), ("_law_errors_right" : PySem.Str), ("_law_errors_right" : PySem.Str), L2.defArgs (top 70), L2.defBody (top 70), L2.defScope (top 70), [], []⟩
def dd_law : He.DefD := ⟨(("law" : PySem.Str), none), ("law" : PySem.Str), ("law" : PySem.Str), L2.defArgs (top 71), L2.defBody (top 71), L2.defScope (top 71), [], []⟩
def dd_TooManyu__initu_ : He.DefD := ⟨(("TooMany" : PySem.Str), some ("__init__" : PySem.Str)), ("__init__" : PySem.Str), ("TooMany.__init__" : PySem.Str), L2.defArgs (mem 15 0), L2.defBody (mem 15 0), L2.defScope (mem 15 0), [], []⟩
def fn : List He.DefD := [dd_is_whole, dd_is_within, dd_is_long, dd_rises, dd_falls_not, dd_is_arm_by, dd_is_weight, dd_arms_in, dd_deep_of, dd_is_arm, dd_need_arm, dd_paths_by, dd_paths, dd_is_path, dd_need_path, dd_arm_by, dd_arm_at, dd_mirrored_by, dd_mirrored, dd_put_by, dd_put, dd_is_bead, dd_are_beads, dd_is_standing_by, dd_is_standing, dd_need_standing, dd_bare, dd_Seenu__initu_, dd_Seen_look, dd_word_by, dd_words_by, dd_need_place_of, dd_load, dd_tilt, dd_word, dd__law_cell_at, dd__law_pen, dd__law_draw, dd__law_kind, dd__law_arms_right, dd__law_beads_right, dd__law_errors_right, dd_law, dd_TooManyu__initu_]
def fas : List He.Fa := [.glo ("is_whole" : PySem.Str), .glo ("is_within" : PySem.Str), .glo ("is_long" : PySem.Str), .glo ("rises" : PySem.Str), .glo ("falls_not" : PySem.Str), .glo ("is_arm_by" : PySem.Str), .glo ("is_weight" : PySem.Str), .glo ("arms_in" : PySem.Str), .glo ("deep_of" : PySem.Str), .glo ("is_arm" : PySem.Str), .glo ("need_arm" : PySem.Str), .glo ("paths_by" : PySem.Str), .glo ("paths" : PySem.Str), .glo ("is_path" : PySem.Str), .glo ("need_path" : PySem.Str), .glo ("arm_by" : PySem.Str), .glo ("arm_at" : PySem.Str), .glo ("mirrored_by" : PySem.Str), .glo ("mirrored" : PySem.Str), .glo ("put_by" : PySem.Str), .glo ("put" : PySem.Str), .glo ("is_bead" : PySem.Str), .glo ("are_beads" : PySem.Str), .glo ("is_standing_by" : PySem.Str), .glo ("is_standing" : PySem.Str), .glo ("need_standing" : PySem.Str), .glo ("bare" : PySem.Str), .glo ("word_by" : PySem.Str), .glo ("words_by" : PySem.Str), .glo ("need_place_of" : PySem.Str), .glo ("load" : PySem.Str), .glo ("tilt" : PySem.Str), .glo ("word" : PySem.Str), .glo ("_law_cell_at" : PySem.Str), .glo ("_law_pen" : PySem.Str), .glo ("_law_draw" : PySem.Str), .glo ("_law_kind" : PySem.Str), .glo ("_law_arms_right" : PySem.Str), .glo ("_law_beads_right" : PySem.Str), .glo ("_law_errors_right" : PySem.Str), .glo ("law" : PySem.Str), .free ("ValueError" : PySem.Str), .free ("all" : PySem.Str), .free ("bool" : PySem.Str), .free ("dict" : PySem.Str), .free ("int" : PySem.Str), .free ("isinstance" : PySem.Str), .free ("len" : PySem.Str), .free ("list" : PySem.Str), .free ("max" : PySem.Str), .free ("min" : PySem.Str), .free ("range" : PySem.Str), .free ("sum" : PySem.Str), .free ("tuple" : PySem.Str), .free ("zip" : PySem.Str), .int ("MOST_SIDE" : PySem.Str) 3, .int ("MOST_SLACK" : PySem.Str) 9, .int ("MOST_HOLDS" : PySem.Str) 3, .int ("MOST_WEIGHT" : PySem.Str) 9, .int ("MOST_ARMS" : PySem.Str) 4, .int ("MOST_DEEP" : PySem.Str) 3, .int ("LONG_ARM" : PySem.Str) 5, .int ("MOST_BEAD" : PySem.Str) 3, .str ("LEVEL" : PySem.Str) ("level" : PySem.Str), .str ("LEFT" : PySem.Str) ("left" : PySem.Str), .str ("RIGHT" : PySem.Str) ("right" : PySem.Str), .glo ("Seen" : PySem.Str), .cls ("Seen" : PySem.Str), .mkr ("Seen" : PySem.Str), .noat ("Seen" : PySem.Str) ("beads" : PySem.Str), .noat ("Seen" : PySem.Str) ("loads" : PySem.Str), .noat ("Seen" : PySem.Str) ("tilts" : PySem.Str), .meth ("Seen" : PySem.Str) ("look" : PySem.Str), .glo ("NoArm" : PySem.Str), .exc ("NoArm" : PySem.Str), .glo ("NoPath" : PySem.Str), .exc ("NoPath" : PySem.Str), .glo ("NoThing" : PySem.Str), .exc ("NoThing" : PySem.Str), .glo ("NoStanding" : PySem.Str), .exc ("NoStanding" : PySem.Str), .glo ("NoFalls" : PySem.Str), .exc ("NoFalls" : PySem.Str), .glo ("NoDrops" : PySem.Str), .exc ("NoDrops" : PySem.Str), .glo ("NoPlace" : PySem.Str), .exc ("NoPlace" : PySem.Str), .glo ("NotNow" : PySem.Str), .exc ("NotNow" : PySem.Str), .glo ("NoPart" : PySem.Str), .exc ("NoPart" : PySem.Str), .glo ("NoRow" : PySem.Str), .exc ("NoRow" : PySem.Str), .glo ("NoDeed" : PySem.Str), .exc ("NoDeed" : PySem.Str), .glo ("NoText" : PySem.Str), .exc ("NoText" : PySem.Str), .glo ("NoLine" : PySem.Str), .exc ("NoLine" : PySem.Str), .glo ("TiltError" : PySem.Str), .exc ("TiltError" : PySem.Str), .glo "TooMany"]
def loose : List PySem.Str := ([("__name__" : PySem.Str), ("TiltError" : PySem.Str), ("NoArm" : PySem.Str), ("NoPath" : PySem.Str), ("NoThing" : PySem.Str), ("NoStanding" : PySem.Str), ("NoFalls" : PySem.Str), ("NoDrops" : PySem.Str), ("NoPlace" : PySem.Str), ("NotNow" : PySem.Str), ("NoPart" : PySem.Str), ("NoRow" : PySem.Str), ("NoDeed" : PySem.Str), ("NoText" : PySem.Str), ("NoLine" : PySem.Str), ("TooMany" : PySem.Str), ("MOST_SIDE" : PySem.Str), ("MOST_SLACK" : PySem.Str), ("MOST_HOLDS" : PySem.Str), ("MOST_WEIGHT" : PySem.Str), ("MOST_ARMS" : PySem.Str), ("MOST_DEEP" : PySem.Str), ("LONG_ARM" : PySem.Str), ("is_whole" : PySem.Str), ("is_within" : PySem.Str), ("is_long" : PySem.Str), ("rises" : PySem.Str), ("falls_not" : PySem.Str), ("is_arm_by" : PySem.Str), ("is_weight" : PySem.Str), ("arms_in" : PySem.Str), ("deep_of" : PySem.Str), ("is_arm" : PySem.Str), ("need_arm" : PySem.Str), ("paths_by" : PySem.Str)] : List PySem.Str) ++ ([("paths" : PySem.Str), ("is_path" : PySem.Str), ("need_path" : PySem.Str), ("arm_by" : PySem.Str), ("arm_at" : PySem.Str), ("mirrored_by" : PySem.Str), ("mirrored" : PySem.Str), ("put_by" : PySem.Str), ("put" : PySem.Str), ("MOST_BEAD" : PySem.Str), ("LEVEL" : PySem.Str), ("LEFT" : PySem.Str), ("RIGHT" : PySem.Str), ("is_bead" : PySem.Str), ("are_beads" : PySem.Str), ("is_standing_by" : PySem.Str), ("is_standing" : PySem.Str), ("need_standing" : PySem.Str), ("bare" : PySem.Str), ("Seen" : PySem.Str), ("word_by" : PySem.Str), ("words_by" : PySem.Str), ("need_place_of" : PySem.Str), ("load" : PySem.Str), ("tilt" : PySem.Str), ("word" : PySem.Str), ("_law_cell_at" : PySem.Str), ("_law_pen" : PySem.Str), ("_law_draw" : PySem.Str), ("_law_kind" : PySem.Str), ("_law_arms_right" : PySem.Str), ("_law_beads_right" : PySem.Str), ("_law_errors_right" : PySem.Str)] : List PySem.Str)
abbrev Rw : PySem.W.OpenRow := PySem.W.OpenLaw.row PySem.Challenge.rw_tiltbeads_k06_an_arm_by_hand_and_by_name
def exB (K : PySem.W.Frag) : Bool := sysB K && xvB K [(1, He.ga K ("NoArm" : PySem.Str)), (2, He.ga K ("NoPath" : PySem.Str)), (3, He.ga K ("NoThing" : PySem.Str)), (4, He.ga K ("NoStanding" : PySem.Str)), (5, He.ga K ("NoFalls" : PySem.Str)), (6, He.ga K ("NoDrops" : PySem.Str)), (7, He.ga K ("NoPlace" : PySem.Str)), (8, He.ga K ("NotNow" : PySem.Str)), (9, He.ga K ("NoPart" : PySem.Str)), (10, He.ga K ("NoRow" : PySem.Str)), (11, He.ga K ("NoDeed" : PySem.Str)), (12, He.ga K ("NoText" : PySem.Str)), (13, He.ga K ("NoLine" : PySem.Str)), (14, He.ga K ("TooMany" : PySem.Str))] (He.ga K "TiltError") (He.ga K "TooMany") && tmB K (He.ga K "TooMany") (He.ga K "TiltError") (He.ma K (He.ga K "TooMany") "__init__")
theorem exSys {K : PySem.W.Frag} (ex : exB K = true) : sysB K = true := ((Bool.and_eq_true ..).mp ((Bool.and_eq_true ..).mp ex).1).1
theorem exXv {K : PySem.W.Frag} (ex : exB K = true) : xvB K [(1, He.ga K ("NoArm" : PySem.Str)), (2, He.ga K ("NoPath" : PySem.Str)), (3, He.ga K ("NoThing" : PySem.Str)), (4, He.ga K ("NoStanding" : PySem.Str)), (5, He.ga K ("NoFalls" : PySem.Str)), (6, He.ga K ("NoDrops" : PySem.Str)), (7, He.ga K ("NoPlace" : PySem.Str)), (8, He.ga K ("NotNow" : PySem.Str)), (9, He.ga K ("NoPart" : PySem.Str)), (10, He.ga K ("NoRow" : PySem.Str)), (11, He.ga K ("NoDeed" : PySem.Str)), (12, He.ga K ("NoText" : PySem.Str)), (13, He.ga K ("NoLine" : PySem.Str)), (14, He.ga K ("TooMany" : PySem.Str))] (He.ga K "TiltError") (He.ga K "TooMany") = true := ((Bool.and_eq_true ..).mp ((Bool.and_eq_true ..).mp ex).1).2
theorem exTm {K : PySem.W.Frag} (ex : exB K = true) : tmB K (He.ga K "TooMany") (He.ga K "TiltError") (He.ma K (He.ga K "TooMany") "__init__") = true := ((Bool.and_eq_true ..).mp ex).2
def asX (g : PySem.Addr → Option PySem.Obj) (l : List PySem.Addr) : List PySem.Addr := 1 :: 2 :: l
abbrev AlX : Type := He.AlD × Bool
def obK (g : PySem.Addr → Option PySem.Obj) (K : PySem.W.Frag) : AlX := (He.obsD fas fn K, exB K && tabsB2 g K)
def hkX : PySem.W.Hook where
  α := AlX
  obs := fun s => obK s.heap.get? (He.frT s.heap.get? (asX s.heap.get? (He.asD s.heap.get? 4)))
  val := fun _ => (He.valD fn, true)
  says := fun _ h => ∃ K : PySem.W.Frag, K.In h ∧ He.SaysD fas fn K ∧ exB K = true ∧ ∀ t ∈ tabsK K, h.get? t.2.1 = some { cls := .none, data := .fields #[] }
  of := fun _ _ e => ⟨_, He.frT_in, congrArg (fun z : AlX => z.1) e, ((Bool.and_eq_true ..).mp (congrArg (fun z : AlX => z.2) e)).1, tabsB2_ok ((Bool.and_eq_true ..).mp (congrArg (fun z : AlX => z.2) e)).2⟩
  keeps := fun _ _ _ ⟨K, hK, c, ex, tb⟩ k => ⟨K, PySem.W.Frag.In.keeps hK k, c, ex, fun t ht => k _ _ (tb t ht)⟩
def obX (s : PySem.W.SharedT) : AlX := obK (HandSHeadRun.getT s) (He.frT (HandSHeadRun.getT s) (asX (HandSHeadRun.getT s) (He.asD (HandSHeadRun.getT s) 4)))
theorem obX_eq (s : PySem.W.SharedT) : obX s = hkX.obs s.abs := by
  have e : HandSHeadRun.getT s = s.abs.heap.get? := funext (HandSHeadRun.getT_eq s)
  unfold obX
  rw [e]
  rfl
end Dn

namespace Dn
open PySem
theorem map_four {α β γ δ ε ζ : Type} {X : Option α} {f : α → β} {g : α → γ} {ob : α → (δ × ε) × ζ} {a : β} {b : γ} {c : δ} {d : ε} {e : ζ} (h1 : X.map (fun s => (f s, g s)) = some (a, b)) (h2 : X.map (fun s => (ob s).1.1) = some c) (h3 : X.map (fun s => (ob s).1.2) = some d) (h4 : X.map (fun s => (ob s).2) = some e) :
    X.map (fun s => (f s, g s, ob s)) = some (a, b, ((c, d), e)) := by
  cases X with
  | none => cases h2
  | some s =>
    simp only [Option.map_some, Option.some.injEq, Prod.mk.injEq] at h1 h2 h3 h4 ⊢
    exact ⟨h1.1, h1.2, Prod.ext (Prod.ext h2 h3) h4⟩

theorem run1 (w : PySem.World) (os : PySem.OsState) : (HandSHeadRun.endF (HandSHeadRun.stepQ (HandSHeadRun.denQ HandSHeadRun.tabQ) Rw.prog w) 9000 Rw.prog w os).map (fun s => (HandSHeadRun.looksF Rw.prog (PySem.W.boot_heap w.params) s.abs, HandSHeadRun.seenQ (PySem.W.view Rw.prog [71]) loose (PySem.importedModules Rw.prog.main.body) (fun s => PySem.W.xlAt (PySem.W.view Rw.prog [71]) [] s && PySem.W.recOk Rw.toRowW.records s) s.abs)) = some (true, PySem.W.openGood (PySem.W.view Rw.prog [71]) loose) := by
  kernel_rfl
theorem run2 (w : PySem.World) (os : PySem.OsState) : (HandSHeadRun.endF (HandSHeadRun.stepQ (HandSHeadRun.denQ HandSHeadRun.tabQ) Rw.prog w) 9000 Rw.prog w os).map (fun s => (obX s).1.1) = some (He.valD fn).1 := by
  kernel_rfl
theorem run3 (w : PySem.World) (os : PySem.OsState) : (HandSHeadRun.endF (HandSHeadRun.stepQ (HandSHeadRun.denQ HandSHeadRun.tabQ) Rw.prog w) 9000 Rw.prog w os).map (fun s => (obX s).1.2) = some (He.valD fn).2 := by
  kernel_rfl
theorem run4 (w : PySem.World) (os : PySem.OsState) : (HandSHeadRun.endF (HandSHeadRun.stepQ (HandSHeadRun.denQ HandSHeadRun.tabQ) Rw.prog w) 9000 Rw.prog w os).map (fun s => (obX s).2) = some true := by
  kernel_rfl
theorem runX (w : PySem.World) : HandSHeadRun.RunEq Rw (PySem.W.view Rw.prog [71]) hkX obX 9000 loose w := fun os =>
  map_four (ob := obX) (run1 w os) (run2 w os) (run3 w os) (run4 w os)
end Dn


namespace Dn
open PySem
theorem callN_fn {tbl : Nat → Option FnD} {f : Nat} {d : FnD} (h : tbl f = some d) (n : Nat) (vs : List PV) (st : Store) : callN tbl (n + 1) f vs st = runFn d (callN tbl n) vs st := by simp only [callN, h]
theorem run_pure {d : FnD} {c : CS} {vs : List PV} {st st' : Store} {fl : Flow} {σ' : Env} {v w : PV} (hp : d.pure = true) (hl : vs.length.beq d.np = true) (hv : plainL vs = true) (hb : d.body c (start d.size vs) [] = .ok (fl, σ') st') (hr : retOf fl = some w) (hf : freeze st' 4 w = some v) : runFn d c vs st = .ok v st := by
  simp only [runFn, hl, hp, hv, hb, hr, if_true, Option.bind_some, hf, Res.of_some]
theorem run_imp {d : FnD} {c : CS} {vs : List PV} {st st' : Store} {fl : Flow} {σ' : Env} {w : PV} (hp : d.pure = false) (hl : vs.length.beq d.np = true) (hb : d.body c (start d.size vs) st = .ok (fl, σ') st') (hr : retOf fl = some w) : runFn d c vs st = .ok w st' := by
  simp [runFn, hl, hp, hb, hr]
theorem fn_pure {tbl : Nat → Option FnD} {f np sz : Nat} {B : DS} (h : tbl f = some ⟨np, sz, true, B⟩) {n : Nat} {vs : List PV} {st st' : Store} {fl : Flow} {σ' : Env} {v w : PV} (hl : vs.length.beq np = true) (hv : plainL vs = true) (hb : B (callN tbl n) (start sz vs) [] = .ok (fl, σ') st') (hr : retOf fl = some w) (hf : freeze st' 4 w = some v) :
    callN tbl (n + 1) f vs st = .ok v st := (callN_fn h n vs st).trans (run_pure rfl hl hv hb hr hf)
theorem fn_imp {tbl : Nat → Option FnD} {f np sz : Nat} {B : DS} (h : tbl f = some ⟨np, sz, false, B⟩) {n : Nat} {vs : List PV} {st st' : Store} {fl : Flow} {σ' : Env} {w : PV} (hl : vs.length.beq np = true) (hb : B (callN tbl n) (start sz vs) st = .ok (fl, σ') st') (hr : retOf fl = some w) :
    callN tbl (n + 1) f vs st = .ok w st' := (callN_fn h n vs st).trans (run_imp rfl hl hb hr)
def fin : Res (Flow × Env) → Option Flow
  | .ok p _ => some p.1
  | _ => none
@[simp] theorem fin_ok (p : Flow × Env) (st : Store) : fin (.ok p st) = some p.1 := rfl
theorem fin_inv {r : Res (Flow × Env)} {f : Flow} (h : fin r = some f) : ∃ σ st, r = .ok (f, σ) st := by
  cases r with
  | ok p st => cases h; exact ⟨p.2, st, rfl⟩
  | exc e st => cases h
  | bad => cases h
theorem fn_ret {tbl : Nat → Option FnD} {f np sz : Nat} {B : DS} (h : tbl f = some ⟨np, sz, true, B⟩) {n : Nat} {vs : List PV} {st : Store} {v : PV} (hl : vs.length.beq np = true) (hv : plainL vs = true) (hb : fin (B (callN tbl n) (start sz vs) []) = some (.ret v)) (hf : plain v = true) :
    callN tbl (n + 1) f vs st = .ok v st := by
  obtain ⟨σ, st', e⟩ := fin_inv hb
  exact fn_pure h hl hv e rfl (freeze_plain _ _ hf)
theorem up {k n : Nat} (h : k + 1 ≤ n) : ∃ m, n = m + 1 ∧ k ≤ m := ⟨n - 1, by omega, by omega⟩

section
variable {cs : CS} {σ : Env} {st : Store} {a b d t : DE} {es : DEs} {x y : DS} {v : PV}
@[simp] theorem e_c : D.c v cs σ st = .ok v st := rfl
@[simp] theorem e_var {i : Nat} : D.var i cs σ st = match σ[i]? with | some (some v) => .ok v st | _ => .bad := rfl
@[simp] theorem e_nil : D.nil cs σ st = .ok [] st := rfl
@[simp] theorem e_cons : D.cons a es cs σ st = (a cs σ st).bind fun v st => (es cs σ st).bind fun vs st => .ok (v :: vs) st := rfl
@[simp] theorem e_tup : D.tup es cs σ st = (es cs σ st).bind fun vs st => if vs.length ≤ 1000000 then .ok (.tup vs) st else .bad := rfl
@[simp] theorem e_lst : D.lst es cs σ st = (es cs σ st).bind fun vs st => if vs.length ≤ 1000000 then .ok (.lst vs) st else .bad := rfl
@[simp] theorem e_op1 {f : PV → Option PV} : D.op1 f a cs σ st = (a cs σ st).bind fun x st => .of st (f (deref st x)) := rfl
@[simp] theorem e_op2 {f : PV → PV → Option PV} : D.op2 f a b cs σ st = (a cs σ st).bind fun x st => (b cs σ st).bind fun y st => .of st (f (deref st x) (deref st y)) := rfl
@[simp] theorem e_and : D.and a b cs σ st = (a cs σ st).bind fun x st => match x with | .bl true => b cs σ st | .bl false => .ok (.bl false) st | _ => .bad := rfl
@[simp] theorem e_or : D.or a b cs σ st = (a cs σ st).bind fun x st => match x with | .bl true => .ok (.bl true) st | .bl false => b cs σ st | _ => .bad := rfl
@[simp] theorem e_not : D.not a cs σ st = (a cs σ st).bind fun x st => match x with | .bl b => .ok (.bl (!b)) st | _ => .bad := rfl
@[simp] theorem e_ite : D.ite t a b cs σ st = (t cs σ st).bind fun x st => match x with | .bl true => a cs σ st | .bl false => b cs σ st | _ => .bad := rfl
@[simp] theorem e_chain {f g : PV → PV → Option PV} : D.chain f g a b d cs σ st = (a cs σ st).bind fun x st => (b cs σ st).bind fun y st => (Res.of st (f (deref st x) (deref st y))).bind fun z st => match z with
    | .bl true => (d cs σ st).bind fun w st => .of st (g (deref st y) (deref st w))
    | .bl false => .ok (.bl false) st
    | _ => .bad := rfl
@[simp] theorem e_call {f : Nat} {dfl : List PV} : D.call f es dfl cs σ st = (es cs σ st).bind fun vs st => cs f (vs ++ dfl) st := rfl
@[simp] theorem e_slice {lo hi : Option DE} : D.slice a lo hi cs σ st = (a cs σ st).bind fun x st => D.part cs σ lo (fun l st => D.part cs σ hi (fun h st => .of st (O.slice (deref st x) l h)) st) st := rfl
@[simp] theorem e_part0 {k : Option Int → Store → Res PV} : D.part cs σ none k st = k none st := rfl
@[simp] theorem e_part1 {k : Option Int → Store → Res PV} : D.part cs σ (some d) k st = (d cs σ st).bind fun v st => match v with | .int i => k (some i) st | _ => .bad := rfl
@[simp] theorem s_ret : D.ret a cs σ st = (a cs σ st).bind fun v st => .ok (.ret v, σ) st := rfl
@[simp] theorem s_expr : D.expr a cs σ st = (a cs σ st).bind fun _ st => .ok (.nx, σ) st := rfl
@[simp] theorem s_pass : D.pass cs σ st = .ok (.nx, σ) st := rfl
@[simp] theorem s_asg {tg : DTg} : D.asg tg a cs σ st = (a cs σ st).bind fun v st => (tg cs v σ st).bind fun σ st => .ok (.nx, σ) st := rfl
@[simp] theorem s_par {i j : Nat} : D.par i j a b cs σ st = (a cs σ st).bind fun v st => (b cs σ st).bind fun w st => .ok (.nx, (σ.set i (some v)).set j (some w)) st := rfl
def thn (y : DS) (cs : CS) : Flow × Env → Store → Res (Flow × Env) := fun p st => match p.1 with
  | .nx => y cs p.2 st
  | _ => .ok p st
def brn (x y : DS) (cs : CS) (σ : Env) : PV → Store → Res (Flow × Env) := fun v st => match v with
  | .bl true => x cs σ st
  | .bl false => y cs σ st
  | _ => .bad
@[simp] theorem s_seq' : D.seq x y cs σ st = (x cs σ st).bind (thn y cs) := rfl
@[simp] theorem s_cond' : D.cond t x y cs σ st = (t cs σ st).bind (brn x y cs σ) := rfl
@[simp] theorem thn_nx : thn y cs (.nx, σ) st = y cs σ st := rfl
@[simp] theorem thn_ret : thn y cs (.ret v, σ) st = .ok (.ret v, σ) st := rfl
@[simp] theorem thn_brk : thn y cs (.brk, σ) st = .ok (.brk, σ) st := rfl
@[simp] theorem thn_cnt : thn y cs (.cnt, σ) st = .ok (.cnt, σ) st := rfl
@[simp] theorem brn_t : brn x y cs σ (.bl true) st = x cs σ st := rfl
@[simp] theorem brn_f : brn x y cs σ (.bl false) st = y cs σ st := rfl
@[simp] theorem g_tn {i : Nat} : D.tn i cs v σ st = .ok (σ.set i (some v)) st := rfl
@[simp] theorem g_tt {ts : List DTg} : D.tt ts cs v σ st = match deref st v with
  | .tup xs => if xs.length.beq ts.length then D.tts ts cs xs σ st else .bad
  | .lst xs => if xs.length.beq ts.length then D.tts ts cs xs σ st else .bad
  | _ => .bad := rfl
@[simp] theorem g_tts0 : D.tts [] cs [] σ st = .ok σ st := rfl
@[simp] theorem g_tts1 {t : DTg} {ts : List DTg} {vs : List PV} : D.tts (t :: ts) cs (v :: vs) σ st = (t cs v σ st).bind fun σ st => D.tts ts cs vs σ st := rfl
@[simp] theorem i_walkT {xs : List PV} : D.walk (D.c (.tup xs)) cs σ st = .ok (xs, none) st := rfl
end
section
variable {cs : CS} {σ : Env} {st : Store} {a b d t : DE} {es : DEs} {x y : DS} {v : PV}
@[simp] theorem e_fresh : D.fresh a cs σ st = (a cs σ st).bind fun v st => match v with
  | .lst xs => .ok (.ref st.length) (st ++ [.lst xs])
  | .dic t kvs => .ok (.ref st.length) (st ++ [.dic t kvs])
  | _ => .bad := rfl
@[simp] theorem e_dict0 {t : Bool} : D.dict t [] cs σ st = .ok (.dic t []) st := rfl
theorem s_for {tg : DTg} {it : DI} {body : DS} : D.for tg it body cs σ st = (it cs σ st).bind fun p st => D.forL tg body cs p.2 p.1 p.1 σ st := rfl
end


theorem for_run {α : Type} {tg : DTg} {body : DS} {c : CS} {src : Option Nat} {all : List PV} (f : α → PV) (R : List α → Env → Store → Prop) (hst : ∀ M σ st, R M σ st → D.stands src all st = true)
    (h : ∀ x M σ st, R (x :: M) σ st → ∃ fl σ' st', ((tg c (f x) σ st).bind fun σ st => body c σ st) = .ok (fl, σ') st' ∧ (fl = .nx ∨ fl = .cnt) ∧ R M σ' st') :
    ∀ (M : List α) (σ : Env) (st : Store), R M σ st → ∃ σ' st', D.forL tg body c src all (M.map f) σ st = .ok (.nx, σ') st' ∧ R [] σ' st'
  | [], σ, st, r => ⟨σ, st, by simp [D.forL, hst _ σ st r], r⟩
  | x :: M, σ, st, r => by
    obtain ⟨fl, σ', st', e, hf, r'⟩ := h x M σ st r
    obtain ⟨σ2, st2, e2, r2⟩ := for_run f R hst h M σ' st' r'
    refine ⟨σ2, st2, ?_, r2⟩
    simp only [List.map_cons, D.forL, hst _ σ st r, if_true]
    cases q : tg c (f x) σ st with
    | ok σ1 st1 =>
      rw [q] at e
      simp only [Res.bind_ok] at e ⊢
      rw [e]
      rcases hf with rfl | rfl <;> exact e2
    | exc ex st1 => rw [q] at e; cases e
    | bad => rw [q] at e; cases e
theorem for_ok {α : Type} {tg : DTg} {it : DI} {body : DS} {c : CS} {src : Option Nat} {σ : Env} {st st1 : Store} (f : α → PV) (M : List α) (R : List α → Env → Store → Prop) (hi : it c σ st = .ok (M.map f, src) st1) (hst : ∀ M' σ st, R M' σ st → D.stands src (M.map f) st = true)
    (h : ∀ x M σ st, R (x :: M) σ st → ∃ fl σ' st', ((tg c (f x) σ st).bind fun σ st => body c σ st) = .ok (fl, σ') st' ∧ (fl = .nx ∨ fl = .cnt) ∧ R M σ' st') (h0 : R M σ st1) : ∃ σ' st', D.for tg it body c σ st = .ok (.nx, σ') st' ∧ R [] σ' st' := by
  obtain ⟨σ', st', e, r⟩ := for_run (tg := tg) (body := body) (c := c) f R hst h M σ st1 h0
  exact ⟨σ', st', by rw [s_for, hi]; exact e, r⟩
theorem for_then {α : Type} {tg : DTg} {it : DI} {body : DS} {c : CS} {σ : Env} {st : Store} {G : Res (Flow × Env) → Prop} (f : α → PV) (M : List α) (src : Option Nat) (R : List α → Env → Store → Prop) {st1 : Store} (hi : it c σ st = .ok (M.map f, src) st1) (hst : ∀ M' σ st, R M' σ st → D.stands src (M.map f) st = true)
    (h0 : R M σ st1) (h : ∀ x M σ st, R (x :: M) σ st → ∃ fl σ' st', ((tg c (f x) σ st).bind fun σ st => body c σ st) = .ok (fl, σ') st' ∧ (fl = .nx ∨ fl = .cnt) ∧ R M σ' st') (k : ∀ σ' st', R [] σ' st' → G (.ok (.nx, σ') st')) : G (D.for tg it body c σ st) := by
  obtain ⟨σ', st', e, r⟩ := for_ok (tg := tg) (body := body) (c := c) f M R hi hst h h0
  rw [e]
  exact k σ' st' r
end Dn


namespace Dn
open PySem
inductive Th where
  | w (n : Int)
  | arm (l r s h : Int) (hs : List (Int × Th))
abbrev Bead := Int × Int
abbrev Path := List Int
abbrev Stand := List (List Bead)
def ppv (q : Path) : PV := .tup (q.map .int)
def bpv (b : Bead) : PV := .tup [.int b.1, .int b.2]
def bspv (bs : List Bead) : PV := .tup (bs.map bpv)
def spv (s : Stand) : PV := .tup (s.map bspv)
mutual
def Th.pv : Th → PV
  | .w n => .int n
  | .arm l r s h hs => .tup [.int l, .int r, .int s, .int h, .tup (hpvs hs)]
def hpvs : List (Int × Th) → List PV
  | [] => []
  | (p, t) :: r => .tup [.int p, t.pv] :: hpvs r
end
def hpv (x : Int × Th) : PV := .tup [.int x.1, x.2.pv]
theorem hpvs_map : ∀ hs, hpvs hs = hs.map hpv
  | [] => rfl
  | (p, t) :: r => by rw [hpvs, hpvs_map r]; rfl
theorem pv_arm (l r s h hs) : (Th.arm l r s h hs).pv = .tup [.int l, .int r, .int s, .int h, .tup (hs.map hpv)] := by rw [Th.pv, hpvs_map]
theorem pv_w (n) : (Th.w n).pv = .int n := by rw [Th.pv]
def Rise : List Int → Prop := List.Pairwise (· < ·)
def Ok : Nat → Th → Prop
  | _, .w n => 1 ≤ n ∧ n ≤ 9
  | 0, .arm _ _ _ _ _ => False
  | d + 1, .arm l r s h hs => (1 ≤ l ∧ l ≤ 3) ∧ (1 ≤ r ∧ r ≤ 3) ∧ (0 ≤ s ∧ s ≤ 9) ∧ (1 ≤ h ∧ h ≤ 3) ∧ Rise (hs.map (·.1)) ∧ ∀ x ∈ hs, (-l ≤ x.1 ∧ x.1 ≤ r) ∧ Ok d x.2
def Th.isA : Th → Bool
  | .w _ => false
  | .arm _ _ _ _ _ => true
mutual
def Th.paths : Th → List Path
  | .w _ => []
  | .arm _ _ _ _ hs => [] :: pathsL hs
def pathsL : List (Int × Th) → List Path
  | [] => []
  | (p, t) :: r => t.paths.map (p :: ·) ++ pathsL r
end
theorem pathsL_flat : ∀ hs, pathsL hs = hs.flatMap fun x => x.2.paths.map (x.1 :: ·)
  | [] => rfl
  | (p, t) :: r => by rw [pathsL, pathsL_flat r]; rfl
theorem paths_arm (l r s h hs) : (Th.arm l r s h hs).paths = [] :: hs.flatMap fun x => x.2.paths.map (x.1 :: ·) := by rw [Th.paths, pathsL_flat]
theorem paths_w (n) : (Th.w n).paths = [] := by rw [Th.paths]
def look (p : Int) : List (Int × Th) → Option Th
  | [] => none
  | (q, t) :: r => if q = p then some t else look p r
def Th.sub (t : Th) : Path → Option Th
  | [] => some t
  | p :: q => match t with
    | .w _ => none
    | .arm _ _ _ _ hs => (look p hs).bind fun u => u.sub q
theorem rise_nodup {l : List Int} (h : Rise l) : l.Nodup := h.imp fun h => by omega
theorem look_mem {hs : List (Int × Th)} (h : (hs.map (·.1)).Nodup) {p : Int} {t : Th} (m : (p, t) ∈ hs) : look p hs = some t := by
  induction hs with
  | nil => cases m
  | cons x r ih =>
    obtain ⟨q, u⟩ := x
    rw [List.map_cons, List.nodup_cons] at h
    rcases List.mem_cons.mp m with e | e
    · cases e; simp [look]
    · have : q ≠ p := fun z => h.1 (by subst z; exact List.mem_map.mpr ⟨_, e, rfl⟩)
      simp only [look, if_neg this]
      exact ih h.2 e
theorem look_some {hs : List (Int × Th)} {p : Int} {t : Th} (h : look p hs = some t) : (p, t) ∈ hs := by
  induction hs with
  | nil => cases h
  | cons x r ih =>
    obtain ⟨q, u⟩ := x
    simp only [look] at h
    split at h
    · rename_i e; cases h; subst e; exact List.mem_cons_self
    · exact List.mem_cons_of_mem _ (ih h)
theorem Ok.up {d : Nat} : ∀ {t : Th}, Ok d t → Ok (d + 1) t := by
  induction d with
  | zero =>
    intro t h
    cases t with
    | w n => exact h
    | arm l r s h' hs => exact (show False from h).elim
  | succ d ih =>
    intro t h
    cases t with
    | w n => exact h
    | arm l r s h' hs =>
      obtain ⟨a, b, c, e, f, g⟩ := h
      exact ⟨a, b, c, e, f, fun x hx => ⟨(g x hx).1, ih (g x hx).2⟩⟩
theorem sub_paths : ∀ (d : Nat) (t : Th), Ok d t → ∀ q ∈ t.paths, ∃ l r s h hs, t.sub q = some (.arm l r s h hs) ∧ Ok d (.arm l r s h hs)
  | d, .w n, _, q, hq => by rw [paths_w] at hq; cases hq
  | 0, .arm _ _ _ _ _, h, _, _ => (show False from h).elim
  | d + 1, .arm l r s h hs, ok, q, hq => by
    rw [paths_arm] at hq
    rcases List.mem_cons.mp hq with e | e
    · subst e; exact ⟨l, r, s, h, hs, rfl, ok⟩
    · obtain ⟨x, hx, e⟩ := List.mem_flatMap.mp e
      obtain ⟨q', hq', rfl⟩ := List.mem_map.mp e
      obtain ⟨_, _, _, _, hr, hh⟩ := ok
      obtain ⟨l', r', s', h', hs', e1, e2⟩ := sub_paths d x.2 (hh x hx).2 q' hq'
      refine ⟨l', r', s', h', hs', ?_, e2.up⟩
      simp only [Th.sub]
      rw [look_mem (rise_nodup hr) (show (x.1, x.2) ∈ hs from hx)]
      exact e1
structure GoodArm (t : Th) : Prop where
  a : t.isA = true
  ok : Ok 3 t
  few : t.paths.length ≤ 4

@[simp] theorem plain_int (i : Int) : plain (.int i) = true := by simp [plain]
@[simp] theorem plain_bl (i : Bool) : plain (.bl i) = true := by simp [plain]
@[simp] theorem plain_str (i : Str) : plain (.str i) = true := by simp [plain]
@[simp] theorem plain_non : plain .non = true := by simp [plain]
@[simp] theorem plain_scr (i : List Int) : plain (.scr i) = true := by simp [plain]
@[simp] theorem plain_tup (i : List PV) : plain (.tup i) = plainL i := by simp [plain]
@[simp] theorem plain_lst (i : List PV) : plain (.lst i) = plainL i := by simp [plain]
@[simp] theorem plainL_nil : plainL [] = true := by simp [plainL]
@[simp] theorem plainL_cons (x : PV) (i : List PV) : plainL (x :: i) = (plain x && plainL i) := by simp [plainL]
theorem plainL_map {α : Type} {f : α → PV} (h : ∀ x, plain (f x) = true) : ∀ M : List α, plainL (M.map f) = true
  | [] => rfl
  | x :: M => by simp [plainL, h x, plainL_map h M]
mutual
@[simp] theorem plain_pv : ∀ t : Th, plain t.pv = true
  | .w n => by simp [pv_w, plain]
  | .arm l r s h hs => by
    rw [Th.pv]
    simp [plain, plainL, plainL_hpvs hs]
theorem plainL_hpvs : ∀ hs, plainL (hpvs hs) = true
  | [] => rfl
  | (p, t) :: r => by rw [hpvs]; simp [plain, plainL, plain_pv t, plainL_hpvs r]
end
@[simp] theorem plain_hpv (x : Int × Th) : plain (hpv x) = true := by simp [hpv, plain, plainL, plain_pv]
@[simp] theorem plain_ints (q : List Int) : plainL (q.map PV.int) = true := plainL_map (fun _ => rfl) q
@[simp] theorem plain_ppv (q : Path) : plain (ppv q) = true := by simp [ppv, plain]
@[simp] theorem plain_bpv (b : Bead) : plain (bpv b) = true := by simp [bpv]
@[simp] theorem plain_bspv (b : List Bead) : plain (bspv b) = true := by simp [bspv, plain, plainL_map plain_bpv]
@[simp] theorem plain_spv (b : Stand) : plain (spv b) = true := by simp [spv, plain, plainL_map plain_bspv]
@[simp] theorem plainL_bpv (b : List Bead) : plainL (b.map bpv) = true := plainL_map plain_bpv b
@[simp] theorem plainL_bspv (b : Stand) : plainL (b.map bspv) = true := plainL_map plain_bspv b
@[simp] theorem plainL_ppv (b : List Path) : plainL (b.map ppv) = true := plainL_map plain_ppv b
@[simp] theorem plain_hpvL (hs : List (Int × Th)) : plainL (hs.map hpv) = true := plainL_map plain_hpv hs

theorem bools_map {α : Type} (p : α → Bool) : ∀ M : List α, O.bools (M.map fun x => .bl (p x)) = some (M.map p)
  | [] => rfl
  | x :: M => by simp [O.bools, bools_map p M]
@[simp] theorem all_map {α : Type} (p : α → Bool) (M : List α) : O.all (.lst (M.map fun x => .bl (p x))) = some (.bl (M.all p)) := by
  simp [O.all, bools_map, List.all_map]
theorem intsP_map {α : Type} (g : α → Int) : ∀ M : List α, O.intsP (M.map fun x => .int (g x)) = some (M.map g)
  | [] => rfl
  | x :: M => by simp [O.intsP, intsP_map g M]
@[simp] theorem sum_map {α : Type} (g : α → Int) (M : List α) : O.sum (.lst (M.map fun x => .int (g x))) = some (.int (M.map g).sum) := by
  simp [O.sum, intsP_map]
@[simp] theorem all_tt {α : Type} (M : List α) : (M.all fun _ => true) = true := by simp

def le2 (a b : Bead) : Bool := decide (a.1 < b.1) || (decide (a.1 = b.1) && decide (a.2 ≤ b.2))
def Sorted2 (bs : List Bead) : Prop := bs.Pairwise fun a b => le2 a b = true
structure BeadsOk (l r h : Int) (bs : List Bead) : Prop where
  len : (bs.length : Int) ≤ h
  ok : ∀ b ∈ bs, (-l ≤ b.1 ∧ b.1 ≤ r) ∧ 1 ≤ b.2 ∧ b.2 ≤ 3
  up : Sorted2 bs
structure GoodSt (t : Th) (s : Stand) : Prop where
  len : s.length = t.paths.length
  ok : ∀ x ∈ t.paths.zip s, ∃ l r sl h hs, t.sub x.1 = some (.arm l r sl h hs) ∧ Ok 3 (.arm l r sl h hs) ∧ BeadsOk l r h x.2
@[simp] theorem deref_pv (st : Store) (t : Th) : deref st t.pv = t.pv := by cases t <;> simp [pv_w, pv_arm]
@[simp] theorem deref_bpv (st : Store) (t : Bead) : deref st (bpv t) = bpv t := rfl
@[simp] theorem deref_bspv (st : Store) (t : List Bead) : deref st (bspv t) = bspv t := rfl
@[simp] theorem deref_spv (st : Store) (t : Stand) : deref st (spv t) = spv t := rfl
@[simp] theorem deref_ppv (st : Store) (t : Path) : deref st (ppv t) = ppv t := rfl
end Dn


namespace Dn
open PySem
@[simp] theorem eqv_int (i j : Int) : eqv (.int i) (.int j) = decide (i = j) := by simp [eqv]
theorem eqvL_ints : ∀ a b : List Int, eqvL (a.map .int) (b.map .int) = decide (a = b)
  | [], [] => by simp [eqvL]
  | [], _ :: _ => by simp [eqvL]
  | _ :: _, [] => by simp [eqvL]
  | x :: a, y :: b => by
    simp only [List.map_cons, eqvL, eqv_int, eqvL_ints a b]
    by_cases h : x = y <;> by_cases g : a = b <;> simp [h, g]
@[simp] theorem eqv_ppv (a b : Path) : eqv (ppv a) (ppv b) = decide (a = b) := by simp [ppv, eqv, eqvL_ints]

theorem flatL_map {α : Type} {k : Nat} {f : α → PV} (h : ∀ x, flat k (f x) = true) : ∀ M : List α, flatL k (M.map f) = true
  | [] => by simp [flatL]
  | x :: M => by simp [flatL, h x, flatL_map h M]
@[simp] theorem flat_int (k : Nat) (i : Int) : flat k (.int i) = true := by simp [flat]
@[simp] theorem flatL_ints (k : Nat) (q : List Int) : flatL k (q.map PV.int) = true := flatL_map (flat_int k) q

section
variable {cs : CS} {σ : Env} {st st1 st2 : Store} {a b d t : DE} {es : DEs} {x y : DS} {v : PV} {C n : Nat} {f : Str} {fs : List (Str × PV)}
theorem meth_ok {m : Str} {g : Nat} {dfl vs : List PV} (h1 : a cs σ st = .ok (.ref n) st) (h2 : st[n]? = some (.ins C fs)) (h3 : fget m fs = none) (h4 : es cs σ st = .ok vs st1) : D.meth C g m a es dfl cs σ st = cs g (.ref n :: (vs ++ dfl)) st1 := by
  unfold D.meth
  rw [h1]
  simp [h2, h3, h4]
end
theorem keyOkL_ints (k : Nat) : ∀ q : List Int, keyOkL k (q.map .int) = true
  | [] => by simp [keyOkL]
  | x :: q => by simp [keyOkL, keyOk, keyOkL_ints k q]
@[simp] theorem keyT_ppv (q : Path) : keyT true (ppv q) = true := by simp [keyT, ppv, keyOk, keyOkL_ints]

mutual
def loadT (bd : Path → List Bead) : Path → Th → Int
  | _, .w n => n
  | q, .arm _ _ _ _ hs => ((bd q).map (·.2)).sum + loadL bd q hs
def loadL (bd : Path → List Bead) : Path → List (Int × Th) → Int
  | _, [] => 0
  | q, (p, t) :: r => loadT bd (q ++ [p]) t + loadL bd q r
end
theorem loadL_sum (bd : Path → List Bead) (q : Path) : ∀ hs, loadL bd q hs = (hs.map fun x => loadT bd (q ++ [x.1]) x.2).sum
  | [] => rfl
  | (p, t) :: r => by rw [loadL, loadL_sum bd q r]; simp
theorem load_arm (bd q l r s h hs) : loadT bd q (.arm l r s h hs) = ((bd q).map (·.2)).sum + (hs.map fun x => loadT bd (q ++ [x.1]) x.2).sum := by rw [loadT, loadL_sum]
theorem load_w (bd q n) : loadT bd q (.w n) = n := by rw [loadT]
def tiltT (bd : Path → List Bead) (q : Path) : Th → Int
  | .w _ => 0
  | .arm _ _ _ _ hs => ((bd q).map fun b => b.1 * b.2).sum + (hs.map fun x => x.1 * loadT bd (q ++ [x.1]) x.2).sum
def LD (bd : Path → List Bead) (A : Th) (q : Path) : Int := match A.sub q with | some u => loadT bd q u | none => 0
def TL (bd : Path → List Bead) (A : Th) (q : Path) : Int := match A.sub q with | some u => tiltT bd q u | none => 0
theorem sub_append : ∀ (A : Th) (q p : Path) {t : Th}, A.sub q = some t → A.sub (q ++ p) = t.sub p
  | A, [], p, t, h => by simp only [Th.sub, Option.some.injEq] at h; subst h; rfl
  | .w n, x :: q, p, t, h => by simp [Th.sub] at h
  | .arm l r s h' hs, x :: q, p, t, h => by
    simp only [Th.sub] at h
    obtain ⟨u, e1, e2⟩ := Option.bind_eq_some_iff.mp h
    show (Th.arm l r s h' hs).sub (x :: (q ++ p)) = _
    simp only [Th.sub, e1, Option.bind_some]
    exact sub_append u q p e2

section
variable {base : Store} {a b c x : PO} {J : Store} {j : Nat}
end
theorem sum_append (a b : List Int) : (a ++ b).sum = a.sum + b.sum := by
  induction a with
  | nil => simp
  | cons x a ih => simp [ih]; omega
@[simp] theorem sameL_refl (x : List PV) : sameL x x = true := sameL_self x

def lk (q : Path) : List (Path × List Bead) → List Bead
  | [] => []
  | (p, b) :: r => if p = q then b else lk q r
def bdOf (t : Th) (s : Stand) (q : Path) : List Bead := lk q (t.paths.zip s)
theorem lk_mem : ∀ {z : List (Path × List Bead)}, (z.map (·.1)).Nodup → ∀ x ∈ z, lk x.1 z = x.2
  | [], _, x, hx => by cases hx
  | (p, b) :: r, nd, x, hx => by
    rw [List.map_cons, List.nodup_cons] at nd
    rcases List.mem_cons.mp hx with e | e
    · subst e; simp [lk]
    · have : p ≠ x.1 := fun z => nd.1 (z ▸ List.mem_map.mpr ⟨x, e, rfl⟩)
      simp only [lk, if_neg this]
      exact lk_mem nd.2 x e
theorem paths_nodup : ∀ (d : Nat) (t : Th), Ok d t → t.paths.Nodup
  | d, .w n, _ => by simp [paths_w]
  | 0, .arm _ _ _ _ _, h => (show False from h).elim
  | d + 1, .arm l r s h hs, ok => by
    rw [paths_arm, List.nodup_cons]
    have nd := rise_nodup ok.2.2.2.2.1
    refine ⟨by simp [List.mem_flatMap], ?_⟩
    have sub : ∀ x ∈ hs, Ok d x.2 := fun x hx => (ok.2.2.2.2.2 x hx).2
    clear ok
    induction hs with
    | nil => simp
    | cons x hs ih =>
      rw [List.map_cons, List.nodup_cons] at nd
      rw [List.flatMap_cons, List.nodup_append]
      refine ⟨List.pairwise_map.mpr ((paths_nodup d x.2 (sub x List.mem_cons_self)).imp fun h e => h (List.cons.inj e).2), ih nd.2 fun y hy => sub y (List.mem_cons_of_mem _ hy), ?_⟩
      intro a ha b hb e
      subst e
      obtain ⟨y, hy, hb⟩ := List.mem_flatMap.mp hb
      obtain ⟨r1, _, rfl⟩ := List.mem_map.mp ha
      obtain ⟨r2, _, e⟩ := List.mem_map.mp hb
      exact nd.1 ((List.cons.inj e).1 ▸ List.mem_map.mpr ⟨y, hy, rfl⟩)
theorem zip_fst {α β : Type} : ∀ {a : List α} {b : List β}, b.length = a.length → (a.zip b).map (·.1) = a
  | [], [], _ => rfl
  | x :: a, y :: b, h => by simp at h; simp [zip_fst h]
theorem GoodSt.nodup {t : Th} {s : Stand} (g : GoodArm t) (gs : GoodSt t s) : ((t.paths.zip s).map (·.1)).Nodup := by
  rw [zip_fst gs.len]
  exact paths_nodup 3 t g.ok
theorem zip_ex {α β : Type} : ∀ {a : List α} {b : List β}, b.length = a.length → ∀ x ∈ a, ∃ y, (x, y) ∈ a.zip b
  | [], [], _, x, hx => by cases hx
  | z :: a, y :: b, h, x, hx => by
    rcases List.mem_cons.mp hx with e | e
    · subst e; exact ⟨y, by simp⟩
    · obtain ⟨y', hy⟩ := zip_ex (a := a) (b := b) (by simpa using h) x e
      exact ⟨y', by simp [hy]⟩
theorem bd_at {t : Th} {s : Stand} (g : GoodArm t) (gs : GoodSt t s) {q : Path} (hq : q ∈ t.paths) : (q, bdOf t s q) ∈ t.paths.zip s := by
  obtain ⟨b, hb⟩ := zip_ex gs.len q hq
  have := lk_mem (gs.nodup g) _ hb
  simp only at this
  unfold bdOf
  rw [this]
  exact hb
theorem bd_ok {t : Th} {s : Stand} (g : GoodArm t) (gs : GoodSt t s) {q : Path} (hq : q ∈ t.paths) : ∃ l r sl h hs, t.sub q = some (.arm l r sl h hs) ∧ Ok 3 (.arm l r sl h hs) ∧ BeadsOk l r h (bdOf t s q) := gs.ok _ (bd_at g gs hq)
theorem bd_small {t : Th} {s : Stand} (g : GoodArm t) (gs : GoodSt t s) {q : Path} (hq : q ∈ t.paths) : (bdOf t s q).length ≤ 3 ∧ ∀ b ∈ bdOf t s q, O.small b.1 = true := by
  obtain ⟨l, r, sl, h, hs, _, ok, bo⟩ := bd_ok g gs hq
  have h1 := ok.1
  have h2 := ok.2.1
  have h3 := ok.2.2.2.1
  have := bo.len
  refine ⟨by omega, fun b hb => ?_⟩
  have := (bo.ok b hb).1
  simp only [O.small, Bool.and_eq_true, decide_eq_true_eq]
  omega


def sLeft : Str := ⟨#[108, 101, 102, 116]⟩
def sRight : Str := ⟨#[114, 105, 103, 104, 116]⟩
def sLevel : Str := ⟨#[108, 101, 118, 101, 108]⟩
def wordS (sl t : Int) : Str := if t < -sl then sLeft else if t > sl then sRight else sLevel
def WD (bd : Path → List Bead) (A : Th) (q : Path) : Str := match A.sub q with | some (.arm _ _ s _ _) => wordS s (TL bd A q) | _ => sLevel
@[simp] theorem plain_dic (t : Bool) (kvs : List (PV × PV)) : plain (.dic t kvs) = plainD kvs := by simp [plain]
end Dn


namespace Dn
open PySem
def Pen (st : Store) (p : Nat) : Prop := ∃ a b c : Int, st[p]? = some (.lst [.int a, .int b, .int c])
structure Step (p : Nat) (st st' : Store) : Prop where
  pen : Pen st' p
  len : st.length ≤ st'.length
  keep : ∀ j, j < st.length → j ≠ p → st'[j]? = st[j]?
theorem Pen.lt {st : Store} {p : Nat} (h : Pen st p) : p < st.length := by
  obtain ⟨a, b, c, e⟩ := h
  exact (List.getElem?_eq_some_iff.mp e).1
theorem Step.refl {p : Nat} {st : Store} (h : Pen st p) : Step p st st := ⟨h, Nat.le_refl _, fun _ _ _ => rfl⟩
theorem Step.trans {p : Nat} {a b c : Store} (h : Step p a b) (g : Step p b c) : Step p a c :=
  ⟨g.pen, Nat.le_trans h.len g.len, fun j hj hp => (g.keep j (Nat.lt_of_lt_of_le hj h.len) hp).trans (h.keep j hj hp)⟩
theorem Step.add {p : Nat} {st : Store} (h : Pen st p) (K : Store) : Step p st (st ++ K) := by
  have hp := h.lt
  obtain ⟨a, b, c, e⟩ := h
  refine ⟨⟨a, b, c, by rw [List.getElem?_append_left hp]; exact e⟩, by simp, fun j hj _ => List.getElem?_append_left hj⟩
theorem Step.set {p k : Nat} {st st' : Store} {x : PO} (h : Step p st st') (hk : st.length ≤ k) (hp : p < st.length) : Step p st (st'.set k x) := by
  have pk : p ≠ k := by omega
  obtain ⟨a, b, c, e⟩ := h.pen
  refine ⟨⟨a, b, c, by rw [List.getElem?_set_ne (Ne.symm pk)]; exact e⟩, by simp; exact h.len, fun j hj hp => ?_⟩
  rw [List.getElem?_set_ne (by omega)]
  exact h.keep j hj hp
theorem small_mod {i j : Int} (hj : 0 < j) (h : j < 18446744073709551616) : O.small (i % j) = true := by
  have h1 := Int.emod_nonneg i (Int.ne_of_gt hj)
  have h2 := Int.emod_lt_of_pos i hj
  simp only [O.small, Bool.and_eq_true, decide_eq_true_eq]
  omega
theorem upP_map (lo : Int) : ∀ n : Nat, D.upP lo n = (List.range n).map fun i : Nat => PV.int (lo + i)
  | 0 => rfl
  | n + 1 => by
    rw [D.upP, upP_map (lo + 1) n, List.range_succ_eq_map]
    simp [Function.comp_def]
    intro i _
    omega
theorem range1_ok {a : DE} {c : CS} {σ : Env} {st st' : Store} {k : Int} (h : a c σ st = .ok (.int k) st') (h1 : -1000000 < k) (h2 : k < 1000000) : D.range1 a c σ st = .ok ((List.range k.toNat).map fun i : Nat => PV.int i, none) st' := by
  unfold D.range1
  rw [h]
  simp [h1, h2, upP_map]

def lexlt : List Int → List Int → Bool
  | [], [] => false
  | [], _ :: _ => true
  | _ :: _, [] => false
  | x :: a, y :: b => if x = y then lexlt a b else decide (x < y)
theorem ltL_ints : ∀ a b : List Int, ltL (a.map .int) (b.map .int) = lexlt a b
  | [], [] => by simp [ltL, lexlt]
  | [], _ :: _ => by simp [ltL, lexlt]
  | _ :: _, [] => by simp [ltL, lexlt]
  | x :: a, y :: b => by
    simp only [List.map_cons, ltL, same, lt, lexlt, ltL_ints a b, decide_eq_true_eq]
theorem lt_ppv (a b : Path) : lt (ppv a) (ppv b) = lexlt a b := by simp [ppv, lt, ltL_ints]

theorem paths_under : ∀ (d : Nat) (A : Th), Ok d A → ∀ (q : Path) {t : Th}, A.sub q = some t → t.isA = true → A.paths.filter (fun o => decide (o.take q.length = q)) = t.paths.map (q ++ ·)
  | d, A, ok, [], t, e, ht => by
    simp only [Th.sub, Option.some.injEq] at e
    subst e
    simp
  | d, .w n, ok, p :: q, t, e, ht => by simp [Th.sub] at e
  | 0, .arm _ _ _ _ _, ok, _ :: _, _, _, _ => (show False from ok).elim
  | d + 1, .arm l r s h hs, ok, p :: q, t, e, ht => by
    simp only [Th.sub] at e
    obtain ⟨u, e1, e2⟩ := Option.bind_eq_some_iff.mp e
    have nd := rise_nodup ok.2.2.2.2.1
    have sub : ∀ x ∈ hs, Ok d x.2 := fun x hx => (ok.2.2.2.2.2 x hx).2
    have ih := paths_under d u (sub _ (look_some e1)) q e2 ht
    rw [paths_arm, List.filter_cons, if_neg (by simp)]
    clear ok
    induction hs with
    | nil => cases e1
    | cons x hs ihs =>
      obtain ⟨p', u'⟩ := x
      rw [List.map_cons, List.nodup_cons] at nd
      simp only [look] at e1
      rw [List.flatMap_cons, List.filter_append]
      by_cases hp : p' = p
      · subst hp
        rw [if_pos rfl] at e1
        cases e1
        have z : (hs.flatMap fun x => x.2.paths.map (x.1 :: ·)).filter (fun o => decide (o.take (p' :: q).length = p' :: q)) = [] := by
          rw [List.filter_eq_nil_iff]
          intro o ho
          obtain ⟨y, hy, ho⟩ := List.mem_flatMap.mp ho
          obtain ⟨o', _, rfl⟩ := List.mem_map.mp ho
          simp
          exact fun z => absurd (z ▸ List.mem_map.mpr ⟨y, hy, rfl⟩) nd.1
        rw [z, List.append_nil, List.filter_map]
        have : ((fun o => decide (List.take (p' :: q).length o = p' :: q)) ∘ fun x => p' :: x) = fun o => decide (o.take q.length = q) := by
          funext o
          simp
        simp only [this]
        rw [ih]
        simp
      · rw [if_neg hp] at e1
        have z : (u'.paths.map (p' :: ·)).filter (fun o => decide (o.take (p :: q).length = p :: q)) = [] := by
          rw [List.filter_eq_nil_iff]
          intro o ho
          obtain ⟨o', _, rfl⟩ := List.mem_map.mp ho
          simp
          exact fun z => absurd z hp
        simp only [z, List.nil_append]
        exact ihs (by simp only [Th.sub, e1]; exact e2) e1 nd.2 (fun y hy => sub y (List.mem_cons_of_mem _ hy))
def hangs : Th → List Int
  | .w _ => []
  | .arm _ _ _ _ hs => (hs.filter fun x => !x.2.isA).map fun x => match x.2 with | .w n => n | _ => 0
def own (bd : Path → List Bead) (A : Th) (o : Path) : Int := ((bd o).map (·.2)).sum + (match A.sub o with | some u => (hangs u).sum | none => 0)
end Dn


namespace Dn
open PySem
theorem add_ii (a b : Int) : O.add (.int a) (.int b) = some (.int (a + b)) := rfl
theorem sub_ii (a b : Int) : O.sub (.int a) (.int b) = some (.int (a - b)) := rfl
theorem mulx_ii {a : Int} (h : O.small a = true) (b : Int) : O.mulx (.int a) (.int b) = some (.int (a * b)) := by simp [O.mulx, O.mul, h]
theorem getL_nat {xs : List PV} {i : Nat} {v : PV} (h : xs[i]? = some v) : getL xs (i : Int) = some v := by
  have := (List.getElem?_eq_some_iff.mp h).1
  unfold getL ixP
  rw [if_pos (by omega), if_pos (by omega)]
  simpa using h
@[simp] theorem isInt_w (n : Int) : O.isInt (Th.w n).pv = some (.bl true) := by rw [pv_w]; rfl
@[simp] theorem isInt_arm (l r s h : Int) (hs) : O.isInt (Th.arm l r s h hs).pv = some (.bl false) := by rw [pv_arm]; rfl
theorem sub_ok : ∀ (d : Nat) (t : Th), Ok d t → ∀ (q : Path) {u : Th}, t.sub q = some u → Ok d u
  | d, t, ok, [], u, e => by
    simp only [Th.sub, Option.some.injEq] at e
    subst e
    exact ok
  | d, .w n, ok, p :: q, u, e => by simp [Th.sub] at e
  | 0, .arm _ _ _ _ _, ok, p :: q, u, e => (show False from ok).elim
  | d + 1, .arm l r s h hs, ok, p :: q, u, e => by
    simp only [Th.sub] at e
    obtain ⟨v, e1, e2⟩ := Option.bind_eq_some_iff.mp e
    exact (sub_ok d v (ok.2.2.2.2.2 _ (look_some e1)).2 q e2).up
theorem sub_mem : ∀ (d : Nat) (t : Th), Ok d t → ∀ (q : Path) {u : Th}, t.sub q = some u → u.isA = true → q ∈ t.paths
  | d, .arm l r s h hs, ok, [], u, e, hu => by
    rw [paths_arm]
    exact List.mem_cons_self
  | d, .w n, ok, [], u, e, hu => by
    simp only [Th.sub, Option.some.injEq] at e
    subst e
    cases hu
  | d, .w n, ok, p :: q, u, e, hu => by simp [Th.sub] at e
  | 0, .arm _ _ _ _ _, ok, p :: q, u, e, hu => (show False from ok).elim
  | d + 1, .arm l r s h hs, ok, p :: q, u, e, hu => by
    simp only [Th.sub] at e
    obtain ⟨v, e1, e2⟩ := Option.bind_eq_some_iff.mp e
    have m := look_some e1
    rw [paths_arm]
    exact List.mem_cons_of_mem _ (List.mem_flatMap.mpr ⟨_, m, List.mem_map.mpr ⟨q, sub_mem d v (ok.2.2.2.2.2 _ m).2 q e2 hu, rfl⟩⟩)

def sg (x : Str) : Bool := signsOk x.cps.toList
theorem signs_append : ∀ a b : List Nat, signsOk (a ++ b) = (signsOk a && signsOk b)
  | [], b => by simp [signsOk]
  | x :: a, b => by simp [signsOk, signs_append a b, Bool.and_assoc]
theorem sg_append (a b : Str) : sg (a ++ b) = (sg a && sg b) := by
  show signsOk ((a.cps ++ b.cps).toList) = _
  rw [Array.toList_append, signs_append]
  rfl
theorem signs_chars : ∀ l : List Char, signsOk (l.map Char.toNat) = true
  | [] => rfl
  | c :: l => by
    have h := c.valid
    have ht : c.toNat = c.val.toNat := rfl
    simp only [UInt32.isValidChar, Nat.isValidChar] at h
    simp only [List.map_cons, signsOk, signs_chars l, Bool.and_true, ht, Nat.blt_eq]
    omega
@[simp] theorem sg_of (s : String) : sg (Str.ofString s) = true := by
  unfold sg
  rw [Str.ofString_eq_toList]
  exact signs_chars _
theorem sg_join : ∀ ts : List Str, (∀ t ∈ ts, sg t = true) → sg (Str.join ", " ts) = true
  | [], _ => rfl
  | [x], h => h x List.mem_cons_self
  | x :: y :: r, h => by
    show sg (x ++ ((", " : String) : Str) ++ Str.join ", " (y :: r)) = true
    rw [sg_append, sg_append, h x List.mem_cons_self, sg_of, sg_join (y :: r) fun t ht => h t (List.mem_cons_of_mem _ ht)]
    rfl
theorem sg_from : ∀ (ts : List Str) (k : Nat) (acc : Str), sg acc = true → (∀ t ∈ ts, sg t = true) → sg (textFrom k acc ts) = true
  | [], _, acc, h, _ => h
  | t :: ts, k, acc, h, g => by
    refine sg_from ts (k + 1) _ ?_ fun t ht => g t (List.mem_cons_of_mem _ ht)
    rw [sg_append, sg_append, h, g t List.mem_cons_self]
    simp
mutual
def rOk : PV → Bool
  | .str x => sg (PyData.shown (.str x))
  | .tup xs => rOkL xs
  | .lst xs => rOkL xs
  | _ => true
def rOkL : List PV → Bool
  | [] => true
  | x :: xs => rOk x && rOkL xs
end
mutual
theorem rOk_rep : ∀ x : PV, rOk x = true → sg (PyData.shown (toPD x)) = true
  | .non, _ => sg_of _
  | .bl b, _ => by cases b <;> exact sg_of _
  | .int i, _ => sg_of _
  | .str x, h => by simpa only [rOk, toPD] using h
  | .tup xs, h => by
    simp only [toPD, PyData.shown, tupleText, sg_append, sg_of, Bool.and_true, Bool.true_and]
    exact sg_join _ (rOkL_rep xs (by simpa only [rOk] using h))
  | .lst xs, h => by
    simp only [toPD, PyData.shown, listText, sg_append, sg_of, Bool.and_true, Bool.true_and]
    exact sg_from _ 0 _ (sg_of _) (rOkL_rep xs (by simpa only [rOk] using h))
  | .dic t kvs, _ => by
    simp only [toPD]
    unfold dicPD
    split
    · simp only [PyData.shown, dictText, PyData.shownKv, Str.join, sg_append, sg_of, Bool.and_true, Bool.true_and]
    · show sg ("{}" : Str) = true; exact sg_of _
  | .ref k, _ => sg_of _
  | .scr k, _ => sg_of _
theorem rOkL_rep : ∀ xs : List PV, rOkL xs = true → ∀ t ∈ PyData.shownAll (toPDs xs), sg t = true
  | [], _, t, ht => by simp [toPDs, PyData.shownAll] at ht
  | x :: xs, h, t, ht => by
    simp only [rOkL, Bool.and_eq_true] at h
    simp only [toPDs, PyData.shownAll] at ht
    rcases List.mem_cons.mp ht with e | e
    · subst e; exact rOk_rep x h.1
    · exact rOkL_rep xs h.2 t e
end
theorem rOkL_map {α : Type} {f : α → PV} : ∀ M : List α, (∀ x ∈ M, rOk (f x) = true) → rOkL (M.map f) = true
  | [], _ => by simp [rOkL]
  | x :: M, h => by simp [rOkL, h x List.mem_cons_self, rOkL_map M fun y hy => h y (List.mem_cons_of_mem _ hy)]

theorem flatL_map' {α : Type} {k : Nat} {f : α → PV} : ∀ M : List α, (∀ x ∈ M, flat k (f x) = true) → flatL k (M.map f) = true
  | [], _ => by simp [flatL]
  | x :: M, h => by simp [flatL, h x List.mem_cons_self, flatL_map' M fun y hy => h y (List.mem_cons_of_mem _ hy)]
theorem okIntL_map {α : Type} {f : α → PV} : ∀ M : List α, (∀ x ∈ M, O.okInt (f x) = true) → O.okIntL (M.map f) = true
  | [], _ => by simp [O.okIntL]
  | x :: M, h => by simp [O.okIntL, h x List.mem_cons_self, okIntL_map M fun y hy => h y (List.mem_cons_of_mem _ hy)]
theorem mszL_map {α : Type} {f : α → PV} {B : Nat} : ∀ M : List α, (∀ x ∈ M, O.msz (f x) ≤ B) → O.mszL (M.map f) ≤ M.length * (B + 2)
  | [], _ => by simp [O.mszL]
  | x :: M, h => by
    have h1 := h x List.mem_cons_self
    have h2 := mszL_map (B := B) M fun y hy => h y (List.mem_cons_of_mem _ hy)
    simp only [List.map_cons, O.mszL, List.length_cons, Nat.add_mul]
    omega
structure Shown (k B : Nat) (x : PV) : Prop where
  fl : ∀ j, k ≤ j → flat j x = true
  ok : O.okInt x = true
  sz : O.msz x ≤ B
  rp : rOk x = true
theorem Shown.int {i : Int} (h : i.natAbs < 1000000000000) : Shown 0 13 (.int i) := ⟨fun _ _ => by simp [flat], by simp [O.okInt, h], by simp [O.msz, h], by simp [rOk]⟩
theorem Shown.mono {k B k' B' : Nat} {x : PV} (h : Shown k B x) (h1 : k ≤ k') (h2 : B ≤ B') : Shown k' B' x := ⟨fun j hj => h.fl j (by omega), h.ok, by have := h.sz; omega, h.rp⟩
theorem Shown.nil {k : Nat} : Shown (k + 1) 3 (.tup []) := ⟨fun j hj => by obtain ⟨i, rfl⟩ : ∃ i, j = i + 1 := ⟨j - 1, by omega⟩; simp [flat, flatL], by simp [O.okInt, O.okIntL], by simp [O.msz, O.mszL], by simp [rOk, rOkL]⟩
theorem Shown.map {α : Type} {f : α → PV} {k B n : Nat} (M : List α) (h : ∀ x ∈ M, Shown k B (f x)) (hn : M.length ≤ n) : Shown (k + 1) (n * (B + 2) + 3) (.tup (M.map f)) := by
  refine ⟨fun j hj => ?_, ?_, ?_, ?_⟩
  · obtain ⟨i, rfl⟩ : ∃ i, j = i + 1 := ⟨j - 1, by omega⟩
    simp only [flat]
    exact flatL_map' M fun x hx => (h x hx).fl i (by omega)
  · simp only [O.okInt]
    exact okIntL_map M fun x hx => (h x hx).ok
  · simp only [O.msz]
    have := mszL_map M fun x hx => (h x hx).sz
    have := Nat.mul_le_mul_right (B + 2) hn
    omega
  · simp only [rOk]
    exact rOkL_map M fun x hx => (h x hx).rp
theorem Shown.cons {k B C : Nat} {x : PV} {xs : List PV} (h : Shown k B x) (g : Shown (k + 1) C (.tup xs)) : Shown (k + 1) (B + 2 + C) (.tup (x :: xs)) := by
  refine ⟨fun j hj => ?_, ?_, ?_, ?_⟩
  · have g1 := g.fl j hj
    obtain ⟨i, rfl⟩ : ∃ i, j = i + 1 := ⟨j - 1, by omega⟩
    have h1 := h.fl i (by omega)
    simp only [flat, flatL] at g1 ⊢
    simp [h1, g1]
  · have g1 := g.ok
    have h1 := h.ok
    simp only [O.okInt, O.okIntL] at g1 ⊢
    simp [h1, g1]
  · have g1 := g.sz
    have h1 := h.sz
    simp only [O.msz, O.mszL] at g1 ⊢
    omega
  · have g1 := g.rp
    have h1 := h.rp
    simp only [rOk, rOkL] at g1 ⊢
    simp [h1, g1]
theorem Shown.lst {k B : Nat} {xs : List PV} (h : Shown k B (.tup xs)) : Shown k B (.lst xs) := by
  refine ⟨fun j hj => ?_, ?_, ?_, ?_⟩
  · have := h.fl j hj
    cases j <;> simpa [flat] using this
  · have := h.ok
    simpa [O.okInt] using this
  · have := h.sz
    simpa [O.msz] using this
  · have := h.rp
    simpa [rOk] using this
theorem Shown.str {x : Str} (h : sg x = true) (g : sg (PyData.shown (.str x)) = true) : Shown 0 ((PyData.shown (.str x)).length) (.str x) := ⟨fun _ _ => by simpa [flat, sg] using h, by simp [O.okInt], by simp [O.msz], by simpa [rOk] using g⟩
theorem Shown.repr {x : PV} (h : Shown 60 10000000 x) : O.repr x = some (.str (O.rep x)) := by
  have h1 := h.fl 60 (Nat.le_refl _)
  have h2 := h.ok
  have h3 := h.sz
  have h4 := flatE_of 60 x h1
  unfold O.repr
  rw [if_pos (by simp [h4, h2, h3])]
theorem eq_str {x : Str} (h : sg x = true) : O.eq (.str x) (.str x) = some (.bl true) := by
  have h : signsOk x.cps.toList = true := h
  simp [O.eq, eqP, flat, eqv, h]
theorem Shown.eq {x : PV} (h : Shown 60 10000000 x) : O.eq (.str (O.rep x)) (.str (O.rep x)) = some (.bl true) := eq_str (rOk_rep x h.rp)
theorem sum_bound {α : Type} {f : α → Int} {a b : Int} : ∀ (M : List α), (∀ x ∈ M, a ≤ f x ∧ f x ≤ b) → (M.length : Int) * a ≤ (M.map f).sum ∧ (M.map f).sum ≤ (M.length : Int) * b
  | [], _ => by simp
  | x :: M, h => by
    have h1 := h x List.mem_cons_self
    have h2 := sum_bound (a := a) (b := b) M fun y hy => h y (List.mem_cons_of_mem _ hy)
    simp only [List.map_cons, List.sum_cons, List.length_cons, Int.natCast_add, Int.add_mul, Int.natCast_one, Int.one_mul]
    omega
def Runs (r : Res (Flow × Env)) (Q : Env → Store → Prop) : Prop := ∃ fl σ' st', r = .ok (fl, σ') st' ∧ (fl = .nx ∨ fl = .cnt) ∧ Q σ' st'
theorem runs_nx {σ : Env} {st : Store} {Q : Env → Store → Prop} (h : Q σ st) : Runs (.ok (.nx, σ) st) Q := ⟨.nx, σ, st, rfl, .inl rfl, h⟩

theorem g_tsub {o i : DE} {cs : CS} {v : PV} {σ : Env} {st : Store} : D.tsub o i cs v σ st = (o cs σ st).bind fun x st => (i cs σ st).bind fun y st => match D.store st x y v with | some st' => .ok σ st' | none => .bad := rfl
theorem deref_at {st : Store} {p : Nat} {xs : List PV} (h : st[p]? = some (.lst xs)) : deref st (.ref p) = .lst xs := by simp [deref, h]
theorem get_set {st : Store} {p : Nat} {x : PO} (h : p < st.length) : (st.set p x)[p]? = some x := by simp [h]
theorem store0 {st : Store} {p : Nat} {a b c v : PV} (h : st[p]? = some (.lst [a, b, c])) : D.store st (.ref p) (.int 0) v = some (st.set p (.lst [v, b, c])) := by simp [D.store, h, ixP]
theorem store1 {st : Store} {p : Nat} {a b c v : PV} (h : st[p]? = some (.lst [a, b, c])) : D.store st (.ref p) (.int 1) v = some (st.set p (.lst [a, v, c])) := by simp [D.store, h, ixP]
theorem store2 {st : Store} {p : Nat} {a b c v : PV} (h : st[p]? = some (.lst [a, b, c])) : D.store st (.ref p) (.int 2) v = some (st.set p (.lst [a, b, v])) := by simp [D.store, h, ixP]
theorem Step.at {p : Nat} {st st' : Store} (h : Step p st st') (a b c : Int) : Step p st (st'.set p (.lst [.int a, .int b, .int c])) := by
  refine ⟨⟨a, b, c, get_set h.pen.lt⟩, by simp; exact h.len, fun j hj hp => ?_⟩
  rw [List.getElem?_set_ne (Ne.symm hp)]
  exact h.keep j hj hp
theorem item0 (a b c : PV) : O.item (.lst [a, b, c]) (.int 0) = some a := rfl
theorem item1 (a b c : PV) : O.item (.lst [a, b, c]) (.int 1) = some b := rfl
theorem item2 (a b c : PV) : O.item (.lst [a, b, c]) (.int 2) = some c := rfl
theorem mulx_r {b : Int} (h : O.small b = true) (a : Int) : O.mulx (.int a) (.int b) = some (.int (a * b)) := by simp [O.mulx, O.mul, h]
theorem mod_ii {b : Int} (h : 0 < b) (a : Int) : O.mod (.int a) (.int b) = some (.int (a % b)) := by simp [O.mod, h]
theorem fdiv_ii {b : Int} (h : 0 < b) (h2 : b < 1073741824) (a : Int) : O.fdiv (.int a) (.int b) = some (.int (a / b)) := by simp [O.fdiv, h, h2]
theorem gt_ii (a b : Int) : O.gt (.int a) (.int b) = some (.bl (decide (b < a))) := rfl
theorem mod_in {a b : Int} (h : 0 < b) : 0 ≤ a % b ∧ a % b < b := ⟨Int.emod_nonneg a (by omega), Int.emod_lt_of_pos a h⟩
def Rets (r : Res (Flow × Env)) (Q : PV → Store → Prop) : Prop := ∃ v σ' st', r = .ok (.ret v, σ') st' ∧ Q v st'
theorem rets {v : PV} {σ : Env} {st : Store} {Q : PV → Store → Prop} (h : Q v st) : Rets (.ok (.ret v, σ) st) Q := ⟨v, σ, st, rfl, h⟩
theorem fn_rets {tbl : Nat → Option FnD} {f np sz : Nat} {B : DS} (h : tbl f = some ⟨np, sz, false, B⟩) {n : Nat} {vs : List PV} {st : Store} (Q : PV → Store → Prop) (hl : vs.length.beq np = true) (hb : ∀ Q', (∀ v st', Q v st' → Q' v st') → Rets (B (callN tbl n) (start sz vs) st) Q') : ∃ v st', callN tbl (n + 1) f vs st = .ok v st' ∧ Q v st' := by
  obtain ⟨v, σ', st', e, q⟩ := hb Q fun _ _ h => h
  exact ⟨v, st', fn_imp h hl e rfl, q⟩

section
variable {α : Type} (L : α → α → Bool)
def ins (x : α) : List α → List α
  | [] => [x]
  | y :: ys => if L y x then y :: ins x ys else x :: y :: ys
def isort : List α → List α
  | [] => []
  | x :: xs => ins L x (isort xs)
theorem ins_perm (x : α) : ∀ l, (ins L x l).Perm (x :: l)
  | [] => .refl _
  | y :: ys => by
    simp only [ins]
    split
    · exact ((ins_perm x ys).cons y).trans (.swap x y ys)
    · exact .refl _
theorem isort_perm : ∀ l, (isort L l).Perm l
  | [] => .refl _
  | x :: xs => (ins_perm L x _).trans ((isort_perm xs).cons x)
variable {L}
theorem ins_sorted {R : α → α → Prop} (h1 : ∀ x y, L y x = true → R y x) (h2 : ∀ x y, L y x = false → R x y) (tr : ∀ x y z, R x y → R y z → R x z) (x : α) : ∀ l, l.Pairwise R → (ins L x l).Pairwise R
  | [], _ => by simp [ins]
  | y :: ys, h => by
    rw [List.pairwise_cons] at h
    simp only [ins]
    split
    · rename_i e
      rw [List.pairwise_cons]
      refine ⟨fun z hz => ?_, ins_sorted h1 h2 tr x ys h.2⟩
      rcases List.mem_cons.mp ((ins_perm L x ys).mem_iff.mp hz) with e' | e'
      · subst e'; exact h1 _ _ e
      · exact h.1 z e'
    · rename_i e
      have e : L y x = false := by simpa using e
      rw [List.pairwise_cons]
      refine ⟨fun z hz => ?_, List.pairwise_cons.mpr h⟩
      rcases List.mem_cons.mp hz with e' | e'
      · subst e'; exact h2 _ _ e
      · exact tr _ _ _ (h2 _ _ e) (h.1 z e')
theorem isort_sorted {R : α → α → Prop} (h1 : ∀ x y, L y x = true → R y x) (h2 : ∀ x y, L y x = false → R x y) (tr : ∀ x y z, R x y → R y z → R x z) : ∀ l, (isort L l).Pairwise R
  | [] => .nil
  | x :: xs => ins_sorted h1 h2 tr x _ (isort_sorted h1 h2 tr xs)
end
def lt2 (a b : Bead) : Bool := decide (a.1 < b.1) || (decide (a.1 = b.1) && decide (a.2 < b.2))
def sortB (bs : List Bead) : List Bead := isort lt2 bs
theorem sortB_perm (bs : List Bead) : (sortB bs).Perm bs := isort_perm _ _
theorem sortB_sorted (bs : List Bead) : Sorted2 (sortB bs) := by
  refine isort_sorted (R := fun a b => le2 a b = true) ?_ ?_ ?_ bs
  · intro x y h
    simp [lt2, le2] at h ⊢
    omega
  · intro x y h
    simp [lt2, le2] at h ⊢
    omega
  · intro x y z h g
    simp [le2] at h g ⊢
    omega
def ltI (a b : Int) : Bool := decide (a < b)
def sortI (l : List Int) : List Int := isort ltI l
theorem sortI_perm (l : List Int) : (sortI l).Perm l := isort_perm _ _

def cnt (t : Th) : Nat := t.paths.length
theorem cnt_arm (l r s h hs) : cnt (.arm l r s h hs) = 1 + (hs.map fun x => cnt x.2).sum := by
  unfold cnt
  rw [paths_arm, List.length_cons, List.length_flatMap]
  simp [Nat.add_comm]
def Lone (t : Th) : Prop := ∃ l r s h, t = .arm l r s h [] ∧ Ok 1 t
theorem Lone.cnt {t : Th} (h : Lone t) : cnt t = 1 := by
  obtain ⟨l, r, s, h, rfl, _⟩ := h
  simp [cnt_arm]
theorem sum_same {α : Type} {f : α → Nat} {k : Nat} : ∀ (M : List α), (∀ x ∈ M, f x = k) → (M.map f).sum = M.length * k
  | [], _ => by simp
  | x :: M, h => by
    rw [List.map_cons, List.sum_cons, sum_same M fun y hy => h y (List.mem_cons_of_mem _ hy), h x List.mem_cons_self, List.length_cons, Nat.add_mul]
    omega
theorem runs_intro {r : Res (Flow × Env)} {Q : Env → Store → Prop} (h : ∀ Q', (∀ σ st, Q σ st → Q' σ st) → Runs r Q') : Runs r Q := h Q fun _ _ h => h
end Dn


namespace Dn
open PySem
def sBy : Str := ⟨#[98, 121]⟩
def stp (w : Str) : Int := if w = sLeft then -1 else if w = sRight then 1 else 0
def IsW (w : Str) : Prop := w = sLeft ∨ w = sLevel ∨ w = sRight
theorem word_is (sl T : Int) : IsW (wordS sl T) := by
  unfold wordS IsW
  split
  · simp
  · split <;> simp
theorem WD_is (bd A q) : IsW (WD bd A q) := by
  unfold WD
  split
  · exact word_is _ _
  · exact .inr (.inl rfl)
@[simp] theorem stp_l : stp sLeft = -1 := by decide +kernel
@[simp] theorem stp_v : stp sLevel = 0 := by decide +kernel
@[simp] theorem stp_r : stp sRight = 1 := by decide +kernel
def mv (k : Int) (b : Bead) : Bead := (b.1 + k, b.2)
def inB (l r : Int) (b : Bead) : Bool := decide (-l ≤ b.1) && decide (b.1 ≤ r)
theorem inB_iff {l r : Int} {b : Bead} : inB l r b = true ↔ -l ≤ b.1 ∧ b.1 ≤ r := by simp [inB]
theorem inB_not {l r : Int} {b : Bead} : inB l r b = false ↔ ¬(-l ≤ b.1 ∧ b.1 ≤ r) := by
  rw [← inB_iff]
  simp
@[simp] theorem mv_1 (k : Int) (b : Bead) : (mv k b).1 = b.1 + k := rfl
def stay (l r k : Int) (bs : List Bead) : List Bead := (bs.map (mv k)).filter (inB l r)
def off (l r k : Int) (bs : List Bead) : List Int := ((bs.map (mv k)).filter fun b => !inB l r b).map (·.2)
def lastP (l r : Int) (w : Str) : Int := if w = sLeft then -l else r
def catch_ (h : Int) : List Int → List Bead → List Int → List Bead × List Int
  | [], b, g => (b, g)
  | w :: ws, b, g => if (b.length : Int) < h then catch_ h ws (b ++ [(0, w)]) g else catch_ h ws b (g ++ [w])
theorem catch_len {h : Int} : ∀ (ws : List Int) (b : List Bead) (g : List Int), (b.length : Int) ≤ h → ((catch_ h ws b g).1.length : Int) ≤ h
  | [], b, g, e => e
  | w :: ws, b, g, e => by
    simp only [catch_]
    split
    · exact catch_len ws _ g (by simp; omega)
    · exact catch_len ws b _ e
theorem catch_mem {h : Int} : ∀ (ws : List Int) (b : List Bead) (g : List Int), ∀ x ∈ (catch_ h ws b g).1, x ∈ b ∨ ∃ w ∈ ws, x = (0, w)
  | [], b, g, x, hx => .inl hx
  | w :: ws, b, g, x, hx => by
    simp only [catch_] at hx
    split at hx
    · rcases catch_mem ws _ g x hx with e | ⟨w', h1, h2⟩
      · rcases List.mem_append.mp e with e | e
        · exact .inl e
        · exact .inr ⟨w, List.mem_cons_self, by simpa using e⟩
      · exact .inr ⟨w', List.mem_cons_of_mem _ h1, h2⟩
    · rcases catch_mem ws b _ x hx with e | ⟨w', h1, h2⟩
      · exact .inl e
      · exact .inr ⟨w', List.mem_cons_of_mem _ h1, h2⟩
theorem catch_gone {h : Int} : ∀ (ws : List Int) (b : List Bead) (g : List Int), (catch_ h ws b g).2.length ≤ g.length + ws.length ∧ ∀ x ∈ (catch_ h ws b g).2, x ∈ g ∨ x ∈ ws
  | [], b, g => by simp [catch_]
  | w :: ws, b, g => by
    simp only [catch_]
    split
    · obtain ⟨h1, h2⟩ := catch_gone (h := h) ws (b ++ [(0, w)]) g
      exact ⟨by simp; omega, fun x hx => (h2 x hx).imp id (List.mem_cons_of_mem _)⟩
    · obtain ⟨h1, h2⟩ := catch_gone (h := h) ws b (g ++ [w])
      refine ⟨by simp at h1 ⊢; omega, fun x hx => ?_⟩
      rcases h2 x hx with e | e
      · rcases List.mem_append.mp e with e | e
        · exact .inl e
        · exact .inr (by simp at e; simp [e])
      · exact .inr (List.mem_cons_of_mem _ e)

section
variable (t : Th) (s : Stand) (falls : List Int)
def wdQ (q : Path) : Str := WD (bdOf t s) t q
def limQ (q : Path) : Int × Int × Int := match t.sub q with | some (.arm l r _ h _) => (l, r, h) | _ => (0, 0, 0)
def kQ (q : Path) : Int := stp (wdQ t s q)
def stQ (q : Path) : List Bead := stay (limQ t q).1 (limQ t q).2.1 (kQ t s q) (bdOf t s q)
def offQ (q : Path) : List Int := off (limQ t q).1 (limQ t q).2.1 (kQ t s q) (bdOf t s q)
def belQ (q : Path) : Path := q ++ [lastP (limQ t q).1 (limQ t q).2.1 (wdQ t s q)]
def comeQ (q : Path) : List Int := if q = [] then falls else t.paths.flatMap fun p => if belQ t s p = q then offQ t s p else []
def finQ (q : Path) : List Bead × List Int := catch_ (limQ t q).2.2 (sortI (comeQ t s falls q)) (stQ t s q) []
abbrev Gone := Path × Str × Int
def goneA (P : List Path) : List Gone := P.flatMap fun q => if belQ t s q ∈ t.paths then [] else (offQ t s q).map fun w => (q, wdQ t s q, w)
def goneB (P : List Path) : List Gone := P.flatMap fun q => (finQ t s falls q).2.map fun w => (q, sBy, w)
def gpv (x : Gone) : PV := .tup [ppv x.1, .str x.2.1, .int x.2.2]
def ltG (a b : Gone) : Bool := lt (gpv a) (gpv b)
def newS : Stand := t.paths.map fun q => sortB (finQ t s falls q).1
def bins : List Gone := isort ltG (goneA t s t.paths ++ goneB t s falls t.paths)
end
structure FallsOk (f : List Int) : Prop where
  len : f.length ≤ 3
  ok : ∀ x ∈ f, 1 ≤ x ∧ x ≤ 3
  up : f.Pairwise (· ≤ ·)
section
variable {t : Th} {s : Stand} {falls : List Int}
theorem info (g : GoodArm t) (gs : GoodSt t s) {q : Path} (hq : q ∈ t.paths) : ∃ l r sl h hs, t.sub q = some (.arm l r sl h hs) ∧ Ok 3 (.arm l r sl h hs) ∧ BeadsOk l r h (bdOf t s q) ∧ limQ t q = (l, r, h) := by
  obtain ⟨l, r, sl, h, hs, e1, e2, e3⟩ := bd_ok g gs hq
  exact ⟨l, r, sl, h, hs, e1, e2, e3, by simp only [limQ, e1]⟩
theorem off_ok (g : GoodArm t) (gs : GoodSt t s) {q : Path} (hq : q ∈ t.paths) : (offQ t s q).length ≤ 3 ∧ ∀ w ∈ offQ t s q, 1 ≤ w ∧ w ≤ 3 := by
  obtain ⟨l, r, sl, h, hs, e1, e2, e3, e4⟩ := info g gs hq
  have b3 := (bd_small g gs hq).1
  constructor
  · simp only [offQ, off, List.length_map]
    refine Nat.le_trans (List.length_filter_le _ _) ?_
    simpa using b3
  · intro w hw
    simp only [offQ, off] at hw
    obtain ⟨b, hb, rfl⟩ := List.mem_map.mp hw
    obtain ⟨b', hb', rfl⟩ := List.mem_map.mp (List.mem_filter.mp hb).1
    exact (e3.ok b' hb').2
theorem come_ok (g : GoodArm t) (gs : GoodSt t s) (gf : FallsOk falls) (q : Path) : (comeQ t s falls q).length ≤ 12 ∧ ∀ w ∈ comeQ t s falls q, 1 ≤ w ∧ w ≤ 3 := by
  unfold comeQ
  split
  · exact ⟨by have := gf.len; omega, gf.ok⟩
  · constructor
    · rw [List.length_flatMap]
      have k : ∀ P : List Path, (∀ p ∈ P, p ∈ t.paths) → (P.map fun p => (if belQ t s p = q then offQ t s p else []).length).sum ≤ P.length * 3 := by
        intro P hP
        induction P with
        | nil => simp
        | cons p P ih =>
          have := ih fun p hp => hP p (List.mem_cons_of_mem _ hp)
          have := (off_ok g gs (hP p List.mem_cons_self)).1
          simp only [List.map_cons, List.sum_cons, List.length_cons]
          split <;> simp <;> omega
      have := k t.paths fun _ h => h
      have := g.few
      omega
    · intro w hw
      obtain ⟨p, hp, hw⟩ := List.mem_flatMap.mp hw
      split at hw
      · exact (off_ok g gs hp).2 w hw
      · cases hw
theorem newS_ok (g : GoodArm t) (gs : GoodSt t s) (gf : FallsOk falls)  : GoodSt t (newS t s falls) := by
  refine ⟨by simp [newS], ?_⟩
  intro x hx
  have hq := (List.of_mem_zip hx).1
  have e : x.2 = sortB (finQ t s falls x.1).1 := by
    obtain ⟨i, hi, rfl⟩ := List.mem_iff_getElem.mp hx
    simp [newS]
  obtain ⟨l, r, sl, h, hs, e1, e2, e3, e4⟩ := info g gs hq
  refine ⟨l, r, sl, h, hs, e1, e2, ?_⟩
  have l3 := e2.1
  have r3 := e2.2.1
  rw [e]
  refine ⟨?_, ?_, sortB_sorted _⟩
  · rw [(sortB_perm _).length_eq]
    simp only [finQ, e4]
    refine catch_len _ _ _ ?_
    have := e3.len
    have k : (stQ t s x.1).length ≤ (bdOf t s x.1).length := by
      simp only [stQ, stay]
      refine Nat.le_trans (List.length_filter_le _ _) ?_
      simp
    omega
  · intro b hb
    have hb := (sortB_perm _).mem_iff.mp hb
    rcases catch_mem _ _ _ b hb with z | ⟨w, hw, rfl⟩
    · simp only [stQ, stay, e4] at z
      obtain ⟨z1, z2⟩ := List.mem_filter.mp z
      obtain ⟨b', hb', rfl⟩ := List.mem_map.mp z1
      have z2 := inB_iff.mp z2
      exact ⟨z2, (e3.ok b' hb').2⟩
    · have := (come_ok g gs gf x.1).2 w ((sortI_perm _).mem_iff.mp hw)
      simp only
      omega
theorem goneA_ok (g : GoodArm t) (gs : GoodSt t s)  : ∀ P : List Path, (∀ p ∈ P, p ∈ t.paths) → (goneA t s P).length ≤ P.length * 3 ∧ ∀ x ∈ goneA t s P, x.1 ∈ t.paths ∧ IsW x.2.1 ∧ 1 ≤ x.2.2 ∧ x.2.2 ≤ 3
  | [], _ => by simp [goneA]
  | p :: P, h => by
    obtain ⟨h1, h2⟩ := goneA_ok g gs P fun q hq => h q (List.mem_cons_of_mem _ hq)
    have hp := h p List.mem_cons_self
    have of := off_ok g gs hp
    have e : goneA t s (p :: P) = (if belQ t s p ∈ t.paths then [] else (offQ t s p).map fun w => (p, wdQ t s p, w)) ++ goneA t s P := by simp [goneA]
    rw [e]
    refine ⟨?_, fun x hx => ?_⟩
    · rw [List.length_append, List.length_cons]
      split <;> simp <;> omega
    · rcases List.mem_append.mp hx with z | z
      · split at z
        · cases z
        · obtain ⟨w, hw, rfl⟩ := List.mem_map.mp z
          exact ⟨hp, WD_is _ _ _, of.2 w hw⟩
      · exact h2 x z
theorem goneB_ok (g : GoodArm t) (gs : GoodSt t s) (gf : FallsOk falls)  : ∀ P : List Path, (∀ p ∈ P, p ∈ t.paths) → (goneB t s falls P).length ≤ P.length * 12 ∧ ∀ x ∈ goneB t s falls P, x.1 ∈ t.paths ∧ x.2.1 = sBy ∧ 1 ≤ x.2.2 ∧ x.2.2 ≤ 3
  | [], _ => by simp [goneB]
  | p :: P, h => by
    obtain ⟨h1, h2⟩ := goneB_ok g gs gf P fun q hq => h q (List.mem_cons_of_mem _ hq)
    have hp := h p List.mem_cons_self
    have co := come_ok g gs gf p
    have ca := catch_gone (h := (limQ t p).2.2) (sortI (comeQ t s falls p)) (stQ t s p) []
    rw [(sortI_perm _).length_eq] at ca
    have e : goneB t s falls (p :: P) = ((finQ t s falls p).2.map fun w => (p, sBy, w)) ++ goneB t s falls P := by simp [goneB]
    rw [e]
    refine ⟨?_, fun x hx => ?_⟩
    · have : (finQ t s falls p).2.length ≤ 12 := by
        have := ca.1
        simp only [finQ]
        simp at this
        omega
      rw [List.length_append, List.length_cons, List.length_map]
      omega
    · rcases List.mem_append.mp hx with z | z
      · obtain ⟨w, hw, rfl⟩ := List.mem_map.mp z
        have := (ca.2 w hw).resolve_left (by simp)
        exact ⟨hp, rfl, co.2 w ((sortI_perm _).mem_iff.mp this)⟩
      · exact h2 x z
theorem bins_ok (g : GoodArm t) (gs : GoodSt t s) (gf : FallsOk falls)  : (bins t s falls).length ≤ 60 ∧ ∀ x ∈ bins t s falls, x.1 ∈ t.paths ∧ (IsW x.2.1 ∨ x.2.1 = sBy) ∧ 1 ≤ x.2.2 ∧ x.2.2 ≤ 3 := by
  have a := goneA_ok g gs t.paths fun _ h => h
  have b := goneB_ok g gs gf t.paths fun _ h => h
  have few := g.few
  constructor
  · unfold bins
    rw [(isort_perm _ _).length_eq, List.length_append]
    omega
  · intro x hx
    have hx := (isort_perm _ _).mem_iff.mp hx
    rcases List.mem_append.mp hx with z | z
    · have := a.2 x z; exact ⟨this.1, .inl this.2.1, this.2.2⟩
    · have := b.2 x z; exact ⟨this.1, .inr this.2.1, this.2.2⟩
end
theorem plain_gpv (x : Gone) : plain (gpv x) = true := by simp [gpv]
theorem plainL_gpv (M : List Gone) : plainL (M.map gpv) = true := plainL_map plain_gpv M
def updF (F : Path → List Bead) (q : Path) (b : List Bead) : Path → List Bead := fun p => if p = q then b else F p
end Dn


namespace Dn
open PySem
theorem perm_sum {α : Type} (f : α → Int) {a b : List α} (h : a.Perm b) : (a.map f).sum = (b.map f).sum := by
  induction h with
  | nil => rfl
  | cons x _ ih => simp [ih]
  | swap x y l => simp; omega
  | trans _ _ h1 h2 => exact h1.trans h2
theorem stp_word (sl T : Int) : stp (wordS sl T) = if T < -sl then -1 else if sl < T then 1 else 0 := by
  unfold wordS
  by_cases h : T < -sl
  · simp [h]
  · by_cases h2 : sl < T <;> simp [h, h2]
theorem path_lt : ∀ (d : Nat) (t : Th), Ok d t → ∀ q ∈ t.paths, q.length < d
  | d, .w n, _, q, hq => by rw [paths_w] at hq; cases hq
  | 0, .arm _ _ _ _ _, h, _, _ => (show False from h).elim
  | d + 1, .arm l r s h hs, ok, q, hq => by
    rw [paths_arm] at hq
    rcases List.mem_cons.mp hq with e | e
    · subst e; simp
    · obtain ⟨x, hx, e⟩ := List.mem_flatMap.mp e
      obtain ⟨q', hq', rfl⟩ := List.mem_map.mp e
      have := path_lt d x.2 (ok.2.2.2.2.2 x hx).2 q' hq'
      simp
      omega
theorem bd_new {t : Th} {s : Stand} {falls : List Int} (g : GoodArm t) (gs : GoodSt t s) (gf : FallsOk falls) {q : Path} (hq : q ∈ t.paths) : bdOf t (newS t s falls) q = sortB (finQ t s falls q).1 := by
  have h := bd_at g (newS_ok g gs gf) hq
  obtain ⟨i, hi, e⟩ := List.mem_iff_getElem.mp h
  simp [newS] at e
  have e1 := e.1
  have e2 := e.2
  show bdOf t (t.paths.map fun q => sortB (finQ t s falls q).1) q = _
  rw [← e2, e1]
theorem falls_nil : FallsOk [] := ⟨by simp, by simp, .nil⟩

def en (t : Th) (s : Stand) : Nat := (t.paths.map fun q => (3 - q.length) * (bdOf t s q).length).sum
theorem catch_count {h : Int} : ∀ (ws : List Int) (b : List Bead) (g : List Int), (catch_ h ws b g).1.length ≤ b.length + ws.length
  | [], b, g => by simp [catch_]
  | w :: ws, b, g => by
    simp only [catch_]
    split
    · have := catch_count (h := h) ws (b ++ [(0, w)]) g
      simp at this ⊢
      omega
    · have := catch_count (h := h) ws b (g ++ [w])
      simp at this ⊢
      omega
theorem filter_both {α : Type} (p : α → Bool) : ∀ l : List α, (l.filter p).length + (l.filter fun x => !p x).length = l.length
  | [] => rfl
  | x :: l => by
    have := filter_both p l
    cases h : p x <;> simp [h] <;> omega
theorem st_off (t s q) : (stQ t s q).length + (offQ t s q).length = (bdOf t s q).length := by
  simp only [stQ, offQ, stay, off, List.length_map]
  rw [filter_both]
  simp
theorem mem_sum {α : Type} (f : α → Nat) : ∀ {P : List α} {x : α}, x ∈ P → f x ≤ (P.map f).sum
  | y :: P, x, h => by
    rw [List.map_cons, List.sum_cons]
    rcases List.mem_cons.mp h with e | e
    · subst e; omega
    · have := mem_sum f e
      omega
theorem sum_le {α : Type} {f h : α → Nat} : ∀ (P : List α), (∀ x ∈ P, f x ≤ h x) → (P.map f).sum ≤ (P.map h).sum
  | [], _ => by simp
  | x :: P, e => by
    have := sum_le P fun y hy => e y (List.mem_cons_of_mem _ hy)
    have := e x List.mem_cons_self
    simp
    omega
theorem sum_addN {α : Type} (f h : α → Nat) : ∀ (P : List α), (P.map fun x => f x + h x).sum = (P.map f).sum + (P.map h).sum
  | [] => rfl
  | x :: P => by simp [sum_addN f h P]; omega
theorem sum_comm {α β : Type} (f : α → β → Nat) (R : List β) : ∀ (P : List α), (P.map fun q => (R.map fun p => f q p).sum).sum = (R.map fun p => (P.map fun q => f q p).sum).sum
  | [] => by
    simp only [List.map_nil, List.sum_nil]
    induction R with
    | nil => rfl
    | cons x R ih => simp [← ih]
  | q :: P => by
    simp only [List.map_cons, List.sum_cons]
    rw [sum_addN (fun p => f q p), sum_comm f R P]
theorem sum_pick {v : Path → Nat} {b : Path} : ∀ {P : List Path}, P.Nodup → (P.map fun q => if b = q then v q else 0).sum ≤ v b
  | [], _ => by simp
  | q :: P, nd => by
    rw [List.nodup_cons] at nd
    have := sum_pick (v := v) (b := b) nd.2
    simp only [List.map_cons, List.sum_cons]
    by_cases e : b = q
    · have z : (P.map fun q => if b = q then v q else 0).sum = 0 := by
        have this : ∀ x ∈ P, (if b = x then v x else 0) = 0 := by
          intro x hx
          rw [if_neg]
          intro e2
          exact nd.1 (by rw [← e, e2]; exact hx)
        have h := sum_le (f := fun q => if b = q then v q else 0) (h := fun _ => 0) P fun x hx => by rw [this x hx]; exact Nat.le_refl _
        have z2 : (P.map fun _ : Path => 0).sum = 0 := by rw [sum_same P fun _ _ => rfl]; simp
        omega
      rw [z, if_pos e, e]
      omega
    · rw [if_neg e]
      omega
theorem sum_mulL {α : Type} (a : Nat) (f : α → Nat) : ∀ P : List α, a * (P.map f).sum = (P.map fun x => a * f x).sum
  | [] => by simp
  | x :: P => by simp [Nat.mul_add, sum_mulL a f P]
theorem en_new {t : Th} {s : Stand} (g : GoodArm t) (gs : GoodSt t s) : en t (newS t s []) + (t.paths.map fun p => (offQ t s p).length).sum ≤ en t s := by
  have nd := paths_nodup 3 t g.ok
  have come : ∀ q, (comeQ t s [] q).length ≤ (t.paths.map fun p => if belQ t s p = q then (offQ t s p).length else 0).sum := fun q => by
    unfold comeQ
    split
    · simp
    · rw [List.length_flatMap]
      refine sum_le _ fun p _ => ?_
      split <;> simp
  have h1 : en t (newS t s []) ≤ (t.paths.map fun q => (3 - q.length) * (stQ t s q).length + (3 - q.length) * (t.paths.map fun p => if belQ t s p = q then (offQ t s p).length else 0).sum).sum := by
    unfold en
    refine sum_le _ fun q hq => ?_
    rw [bd_new g gs falls_nil hq, (sortB_perm _).length_eq, ← Nat.mul_add]
    refine Nat.mul_le_mul_left _ ?_
    have a := catch_count (h := (limQ t q).2.2) (sortI (comeQ t s [] q)) (stQ t s q) []
    rw [(sortI_perm _).length_eq] at a
    have b := come q
    simp only [finQ]
    omega
  rw [sum_addN] at h1
  have h2 : (t.paths.map fun q => (3 - q.length) * (t.paths.map fun p => if belQ t s p = q then (offQ t s p).length else 0).sum).sum ≤ (t.paths.map fun p => (2 - p.length) * (offQ t s p).length).sum := by
    have e : (t.paths.map fun q => (3 - q.length) * (t.paths.map fun p => if belQ t s p = q then (offQ t s p).length else 0).sum) = t.paths.map fun q => (t.paths.map fun p => (3 - q.length) * if belQ t s p = q then (offQ t s p).length else 0).sum := by
      refine List.map_congr_left fun q _ => ?_
      rw [sum_mulL]
    rw [e, sum_comm (fun q p => (3 - q.length) * if belQ t s p = q then (offQ t s p).length else 0)]
    refine sum_le _ fun p _ => ?_
    have z := sum_pick (v := fun q => (3 - q.length) * (offQ t s p).length) (b := belQ t s p) nd
    have e2 : (t.paths.map fun q => (3 - q.length) * if belQ t s p = q then (offQ t s p).length else 0) = t.paths.map fun q => if belQ t s p = q then (3 - q.length) * (offQ t s p).length else 0 := by
      refine List.map_congr_left fun q _ => ?_
      split <;> simp
    rw [e2]
    refine Nat.le_trans z ?_
    have : (belQ t s p).length = p.length + 1 := by simp [belQ]
    rw [this]
    have : 3 - (p.length + 1) = 2 - p.length := by omega
    rw [this]
    exact Nat.le_refl _
  have h3 : (t.paths.map fun q => (3 - q.length) * (stQ t s q).length).sum + (t.paths.map fun p => (2 - p.length) * (offQ t s p).length).sum + (t.paths.map fun p => (offQ t s p).length).sum = en t s := by
    unfold en
    rw [← sum_addN, ← sum_addN]
    congr 1
    refine List.map_congr_left fun q hq => ?_
    have lt := path_lt 3 t g.ok q hq
    rw [← st_off t s q, Nat.mul_add]
    have : 3 - q.length = (2 - q.length) + 1 := by omega
    have e3 : (3 - q.length) * (offQ t s q).length = (2 - q.length) * (offQ t s q).length + (offQ t s q).length := by
      rw [this, Nat.add_mul, Nat.one_mul]
    omega
  omega

theorem load_congr {t : Th} (ok3 : Ok 3 t) {b1 b2 : Path → List Bead} (h : ∀ q ∈ t.paths, ((b1 q).map (·.2)).sum = ((b2 q).map (·.2)).sum) : ∀ (d : Nat) (u : Th) (q : Path), Ok d u → t.sub q = some u → loadT b1 q u = loadT b2 q u
  | d, .w n, q, _, _ => by rw [load_w, load_w]
  | 0, .arm _ _ _ _ _, q, ok, e => (show False from ok).elim
  | d + 1, .arm l r sl hh hs, q, ok, e => by
    have hq := sub_mem 3 t ok3 q e rfl
    rw [load_arm, load_arm, h q hq]
    congr 2
    refine List.map_congr_left fun x hx => ?_
    refine load_congr ok3 h d x.2 _ (ok.2.2.2.2.2 x hx).2 ?_
    rw [sub_append t q [x.1] e]
    simp only [Th.sub, look_mem (rise_nodup ok.2.2.2.2.1) (show (x.1, x.2) ∈ hs from hx), Option.bind_some]
theorem sum_mv (k : Int) : ∀ bs : List Bead, ((bs.map (mv k)).map fun b => b.1 * b.2).sum = (bs.map fun b => b.1 * b.2).sum + k * (bs.map (·.2)).sum
  | [] => by simp
  | b :: bs => by
    have := sum_mv k bs
    simp only [List.map_cons, List.sum_cons, mv_1] at this ⊢
    have e : (mv k b).2 = b.2 := rfl
    rw [e, this, Int.add_mul, Int.mul_add]
    omega
theorem quiet {t : Th} {s : Stand} (g : GoodArm t) (gs : GoodSt t s) (no : ∀ p ∈ t.paths, offQ t s p = []) {q : Path} (hq : q ∈ t.paths) : (bdOf t (newS t s []) q).Perm ((bdOf t s q).map (mv (kQ t s q))) := by
  have c0 : comeQ t s [] q = [] := by
    unfold comeQ
    split
    · rfl
    · rw [List.flatMap_eq_nil_iff]
      intro p hp
      rw [no p hp]
      split <;> rfl
  have f0 : (finQ t s [] q).1 = stQ t s q := by
    simp only [finQ, c0]
    rfl
  rw [bd_new g gs falls_nil hq, f0]
  refine (sortB_perm _).trans ?_
  have o := no q hq
  simp only [offQ, off, List.map_eq_nil_iff] at o
  have e : stQ t s q = (bdOf t s q).map (mv (kQ t s q)) := by
    simp only [stQ, stay]
    rw [List.filter_eq_self]
    intro b hb
    rw [List.filter_eq_nil_iff] at o
    have := o b hb
    simpa using this
  rw [e]
theorem quiet_k {t : Th} {s : Stand} (g : GoodArm t) (gs : GoodSt t s) (no : ∀ p ∈ t.paths, offQ t s p = []) {q : Path} (hq : q ∈ t.paths) (hk : kQ t s q ≠ 0) : kQ t (newS t s []) q = kQ t s q := by
  have gs' := newS_ok g gs falls_nil
  have w : ∀ q ∈ t.paths, ((bdOf t (newS t s []) q).map (·.2)).sum = ((bdOf t s q).map (·.2)).sum := fun q hq => by
    rw [perm_sum _ (quiet g gs no hq), List.map_map]
    rfl
  obtain ⟨l, r, sl, h, hs, e1, e2, e3, e4⟩ := info g gs hq
  have t1 : ∀ s, TL (bdOf t s) t q = ((bdOf t s q).map fun b => b.1 * b.2).sum + (hs.map fun x => x.1 * loadT (bdOf t s) (q ++ [x.1]) x.2).sum := fun s => by simp only [TL, e1, tiltT]
  have hl : (hs.map fun x => x.1 * loadT (bdOf t (newS t s [])) (q ++ [x.1]) x.2) = hs.map fun x => x.1 * loadT (bdOf t s) (q ++ [x.1]) x.2 := by
    refine List.map_congr_left fun x hx => ?_
    rw [load_congr g.ok w 2 x.2 (q ++ [x.1]) (e2.2.2.2.2.2 x hx).2]
    rw [sub_append t q [x.1] e1]
    simp only [Th.sub, look_mem (rise_nodup e2.2.2.2.2.1) (show (x.1, x.2) ∈ hs from hx), Option.bind_some]
  have T' : TL (bdOf t (newS t s [])) t q = TL (bdOf t s) t q + kQ t s q * ((bdOf t s q).map (·.2)).sum := by
    rw [t1, t1, hl, perm_sum _ (quiet g gs no hq), sum_mv]
    omega
  have pos : 0 ≤ ((bdOf t s q).map (·.2)).sum := by
    have := (sum_bound (f := (·.2)) (a := 0) (b := 3) (bdOf t s q) fun b hb => by have := e3.ok b hb; omega).1
    omega
  have kE : ∀ s, kQ t s q = if TL (bdOf t s) t q < -sl then -1 else if sl < TL (bdOf t s) t q then 1 else 0 := fun s => by
    have : kQ t s q = stp (wordS sl (TL (bdOf t s) t q)) := by simp only [kQ, wdQ, WD, e1]
    rw [this, stp_word]
  have sl0 := e2.2.2.1.1
  generalize hW : ((bdOf t s q).map (·.2)).sum = W at *
  have k0 := kE s
  have k1 := kE (newS t s [])
  generalize hT : TL (bdOf t s) t q = T at *
  by_cases a : T < -sl
  · rw [if_pos a] at k0
    rw [k0] at T'
    rw [k1, if_pos (by omega), k0]
  · rw [if_neg a] at k0
    by_cases b : sl < T
    · rw [if_pos b] at k0
      rw [k0] at T'
      rw [k1, if_neg (by omega), if_pos (by omega), k0]
    · rw [if_neg b] at k0
      exact absurd k0 hk
def stepS (t : Th) : Nat → Stand → Stand
  | 0, s => s
  | n + 1, s => stepS t n (newS t s [])
theorem stepS_ok {t : Th} (g : GoodArm t) : ∀ (n : Nat) {s : Stand}, GoodSt t s → GoodSt t (stepS t n s)
  | 0, _, gs => gs
  | n + 1, _, gs => stepS_ok g n (newS_ok g gs falls_nil)
theorem stepS_add (t : Th) : ∀ (a b : Nat) (s : Stand), stepS t (a + b) s = stepS t b (stepS t a s)
  | 0, b, s => by simp [stepS]
  | a + 1, b, s => by
    rw [show a + 1 + b = (a + b) + 1 by omega]
    simp only [stepS]
    exact stepS_add t a b _
theorem drop {t : Th} (g : GoodArm t) : ∀ (d : Nat) {s : Stand}, GoodSt t s → ∀ {q : Path}, q ∈ t.paths → ∀ {b : Bead}, b ∈ bdOf t s q → kQ t s q ≠ 0 → ((kQ t s q = -1 ∧ b.1 + (limQ t q).1 + 1 ≤ d) ∨ (kQ t s q = 1 ∧ (limQ t q).2.1 - b.1 + 1 ≤ d)) → ∃ j, j ≤ d ∧ en t (stepS t j s) < en t s
  | 0, s, gs, q, hq, b, hb, hk, h => by
    obtain ⟨l, r, sl, hh, hs, e1, e2, e3, e4⟩ := info g gs hq
    have := e3.ok b hb
    rw [e4] at h
    simp only at h
    omega
  | d + 1, s, gs, q, hq, b, hb, hk, h => by
    have ne := en_new g gs
    by_cases no : ∀ p ∈ t.paths, offQ t s p = []
    · have hk' := quiet_k g gs no hq hk
      have hb' : mv (kQ t s q) b ∈ bdOf t (newS t s []) q := (quiet g gs no hq).mem_iff.mpr (List.mem_map.mpr ⟨b, hb, rfl⟩)
      obtain ⟨j, h1, h2⟩ := drop g d (newS_ok g gs falls_nil) hq hb' (by rw [hk']; exact hk) (by
        rw [hk', mv_1]
        rcases h with ⟨h1, h2⟩ | ⟨h1, h2⟩
        · exact .inl ⟨h1, by rw [h1]; omega⟩
        · exact .inr ⟨h1, by rw [h1]; omega⟩)
      exact ⟨j + 1, by omega, by simp only [stepS]; omega⟩
    · have : ∃ p ∈ t.paths, offQ t s p ≠ [] := by
        false_or_by_contra
        rename_i hh
        exact no fun p hp => by
          false_or_by_contra
          rename_i h3
          exact hh ⟨p, hp, h3⟩
      obtain ⟨p, hp, h3⟩ := this
      have pos : 0 < (t.paths.map fun p => (offQ t s p).length).sum := by
        have a : (offQ t s p).length ≤ (t.paths.map fun p => (offQ t s p).length).sum := mem_sum (fun p => (offQ t s p).length) hp
        have b : 0 < (offQ t s p).length := List.length_pos_iff.mpr h3
        omega
      exact ⟨1, by omega, by simp only [stepS]; omega⟩
def Rest (t : Th) (s : Stand) : Prop := ∀ q ∈ t.paths, bdOf t s q = [] ∨ kQ t s q = 0
theorem k_is (t s q) : kQ t s q = -1 ∨ kQ t s q = 0 ∨ kQ t s q = 1 := by
  have := WD_is (bdOf t s) t q
  simp only [kQ, wdQ]
  rcases this with e | e | e <;> rw [e] <;> simp
theorem settles {t : Th} (g : GoodArm t) : ∀ (E : Nat) {s : Stand}, GoodSt t s → en t s ≤ E → ∃ N, N ≤ 7 * E ∧ Rest t (stepS t N s)
  | E, s, gs, h => by
    by_cases r : Rest t s
    · exact ⟨0, by omega, r⟩
    · have : ∃ q ∈ t.paths, bdOf t s q ≠ [] ∧ kQ t s q ≠ 0 := by
        false_or_by_contra
        rename_i hh
        exact r fun q hq => by
          by_cases a : bdOf t s q = []
          · exact .inl a
          · refine .inr ?_
            false_or_by_contra
            rename_i b
            exact hh ⟨q, hq, a, b⟩
      obtain ⟨q, hq, hb, hk⟩ := this
      obtain ⟨b, hb⟩ := List.exists_mem_of_ne_nil _ hb
      obtain ⟨l, r', sl, hh, hs, e1, e2, e3, e4⟩ := info g gs hq
      have bo := e3.ok b hb
      have l3 := e2.1
      have r3 := e2.2.1
      obtain ⟨j, h1, h2⟩ := drop g 7 gs hq hb hk (by
        rw [e4]
        simp only
        rcases k_is t s q with z | z | z
        · exact .inl ⟨z, by omega⟩
        · exact absurd z hk
        · exact .inr ⟨z, by omega⟩)
      match E, h with
      | 0, h => omega
      | E + 1, h =>
        obtain ⟨N, h3, h4⟩ := settles g E (stepS_ok g j gs) (by omega)
        exact ⟨j + N, by omega, by rw [stepS_add]; exact h4⟩
end Dn


namespace Dn
open PySem
def restB (t : Th) (s : Stand) : Bool := t.paths.all fun q => (bdOf t s q).isEmpty || decide (kQ t s q = 0)
theorem restB_iff {t : Th} {s : Stand} : restB t s = true ↔ Rest t s := by
  simp [restB, Rest]

theorem Shown.bl (b : Bool) : Shown 0 5 (.bl b) := ⟨fun _ _ => by simp [flat], by simp [O.okInt], by simp [O.msz], by simp [rOk]⟩
end Dn


namespace Dn
open PySem
structure STO {α : Type} (L : α → α → Bool) : Prop where
  irr : ∀ a, L a a = false
  tri : ∀ a b, L a b = false → L b a = false → a = b
  tr : ∀ a b c, L a b = true → L b c = true → L a c = true
theorem STO.ge {α : Type} {L : α → α → Bool} (o : STO L) {a b c : α} (h1 : L b a = false) (h2 : L c b = false) : L c a = false := by
  cases h : L c a with
  | false => rfl
  | true =>
    cases k : L a b with
    | true => rw [o.tr c a b h k] at h2; cases h2
    | false =>
      have := o.tri a b k h1
      subst this
      rw [h] at h2
      cases h2
theorem isort_le {α : Type} {L : α → α → Bool} (o : STO L) (l : List α) : (isort L l).Pairwise fun a b => L b a = false := by
  refine isort_sorted (R := fun a b => L b a = false) ?_ ?_ (fun a b c h1 h2 => o.ge h1 h2) l
  · intro x y h
    cases k : L x y with
    | false => rfl
    | true =>
      have := o.tr x y x k h
      rw [o.irr] at this
      cases this
  · intro x y h
    exact h
theorem sorted_one {α : Type} {L : α → α → Bool} (o : STO L) : ∀ {a b : List α}, a.Perm b → a.Pairwise (fun a b => L b a = false) → b.Pairwise (fun a b => L b a = false) → a = b
  | [], b, p, _, _ => (List.nil_perm.mp p).symm
  | x :: a, [], p, _, _ => by have := p.length_eq; simp at this
  | x :: a, y :: b, p, h1, h2 => by
    rw [List.pairwise_cons] at h1 h2
    have e : x = y := by
      rcases List.mem_cons.mp (p.mem_iff.mp List.mem_cons_self) with e | e
      · exact e
      · rcases List.mem_cons.mp (p.mem_iff.mpr List.mem_cons_self) with e' | e'
        · exact e'.symm
        · exact o.tri x y (h2.1 x e) (h1.1 y e')
    subst e
    rw [sorted_one o (List.Perm.cons_inv p) h1.2 h2.2]
theorem isort_one {α : Type} {L : α → α → Bool} (o : STO L) {a b : List α} (p : a.Perm b) : isort L a = isort L b :=
  sorted_one o ((isort_perm L a).trans (p.trans (isort_perm L b).symm)) (isort_le o a) (isort_le o b)
def lex2 {α β : Type} [DecidableEq α] (A : α → α → Bool) (B : β → β → Bool) (x y : α × β) : Bool := if x.1 = y.1 then B x.2 y.2 else A x.1 y.1
theorem STO.lex {α β : Type} [DecidableEq α] {A : α → α → Bool} {B : β → β → Bool} (oa : STO A) (ob : STO B) : STO (lex2 A B) := by
  refine ⟨fun a => by simp [lex2, ob.irr], ?_, ?_⟩
  · rintro ⟨a1, a2⟩ ⟨b1, b2⟩ h1 h2
    simp only [lex2] at h1 h2
    by_cases e : a1 = b1
    · subst e
      simp at h1 h2
      rw [ob.tri a2 b2 h1 h2]
    · have e' : ¬ b1 = a1 := fun z => e z.symm
      rw [if_neg e] at h1
      rw [if_neg e'] at h2
      exact absurd (oa.tri _ _ h1 h2) e
  · rintro ⟨a1, a2⟩ ⟨b1, b2⟩ ⟨c1, c2⟩ h1 h2
    simp only [lex2] at h1 h2 ⊢
    by_cases e : a1 = b1
    · subst e
      rw [if_pos rfl] at h1
      by_cases f : a1 = c1
      · subst f
        rw [if_pos rfl] at h2 ⊢
        exact ob.tr _ _ _ h1 h2
      · rw [if_neg f] at h2 ⊢
        exact h2
    · rw [if_neg e] at h1
      by_cases f : b1 = c1
      · subst f
        rw [if_neg e]
        exact h1
      · rw [if_neg f] at h2
        have t := oa.tr _ _ _ h1 h2
        by_cases z : a1 = c1
        · subst z
          rw [oa.irr] at t
          cases t
        · rw [if_neg z]
          exact t
theorem sto_int : STO ltI := ⟨fun a => by simp [ltI], fun a b h1 h2 => by simp [ltI] at h1 h2; omega, fun a b c h1 h2 => by simp [ltI] at h1 h2 ⊢; omega⟩
theorem lexlt_irr : ∀ a, lexlt a a = false
  | [] => rfl
  | x :: a => by simp [lexlt, lexlt_irr a]
theorem lexlt_tri : ∀ a b, lexlt a b = false → lexlt b a = false → a = b
  | [], [], _, _ => rfl
  | [], _ :: _, h, _ => by simp [lexlt] at h
  | _ :: _, [], _, h => by simp [lexlt] at h
  | x :: a, y :: b, h1, h2 => by
    simp only [lexlt] at h1 h2
    by_cases e : x = y
    · subst e
      simp at h1 h2
      rw [lexlt_tri a b h1 h2]
    · have e' : ¬ y = x := fun z => e z.symm
      rw [if_neg e] at h1
      rw [if_neg e'] at h2
      simp at h1 h2
      omega
theorem lexlt_tr : ∀ a b c, lexlt a b = true → lexlt b c = true → lexlt a c = true
  | [], [], _, h, _ => by simp [lexlt] at h
  | _ :: _, [], _, h, _ => by simp [lexlt] at h
  | _, _ :: _, [], _, h => by simp [lexlt] at h
  | [], _ :: _, _ :: _, _, _ => rfl
  | x :: a, y :: b, z :: c, h1, h2 => by
    simp only [lexlt] at h1 h2 ⊢
    by_cases e : x = y
    · subst e
      rw [if_pos rfl] at h1
      by_cases f : x = z
      · subst f
        rw [if_pos rfl] at h2 ⊢
        exact lexlt_tr a b c h1 h2
      · rw [if_neg f] at h2 ⊢
        exact h2
    · rw [if_neg e] at h1
      by_cases f : y = z
      · subst f
        rw [if_neg e]
        exact h1
      · rw [if_neg f] at h2
        simp at h1 h2
        rw [if_neg (by omega)]
        simp
        omega
theorem sto_path : STO lexlt := ⟨lexlt_irr, lexlt_tri, lexlt_tr⟩
theorem sLt_irr : ∀ a, sLt a a = false
  | [] => rfl
  | x :: a => by simp [sLt, sLt_irr a]
theorem sLt_tri : ∀ a b, sLt a b = false → sLt b a = false → a = b
  | [], [], _, _ => rfl
  | [], _ :: _, h, _ => by simp [sLt] at h
  | _ :: _, [], _, h => by simp [sLt] at h
  | x :: a, y :: b, h1, h2 => by
    simp only [sLt, Nat.beq_eq] at h1 h2
    by_cases e : x = y
    · subst e
      simp at h1 h2
      rw [sLt_tri a b h1 h2]
    · have e' : ¬ y = x := fun z => e z.symm
      rw [if_neg e] at h1
      rw [if_neg e'] at h2
      have h1 : ¬ x < y := fun z => by rw [Nat.blt_eq.mpr z] at h1; cases h1
      have h2 : ¬ y < x := fun z => by rw [Nat.blt_eq.mpr z] at h2; cases h2
      omega
theorem sLt_tr : ∀ a b c, sLt a b = true → sLt b c = true → sLt a c = true
  | [], [], _, h, _ => by simp [sLt] at h
  | _ :: _, [], _, h, _ => by simp [sLt] at h
  | _, _ :: _, [], _, h => by simp [sLt] at h
  | [], _ :: _, _ :: _, _, _ => rfl
  | x :: a, y :: b, z :: c, h1, h2 => by
    simp only [sLt, Nat.beq_eq] at h1 h2 ⊢
    by_cases e : x = y
    · subst e
      rw [if_pos rfl] at h1
      by_cases f : x = z
      · subst f
        rw [if_pos rfl] at h2 ⊢
        exact sLt_tr a b c h1 h2
      · rw [if_neg f] at h2 ⊢
        exact h2
    · rw [if_neg e] at h1
      by_cases f : y = z
      · subst f
        rw [if_neg e]
        exact h1
      · rw [if_neg f] at h2
        have h1 := Nat.blt_eq.mp h1
        have h2 := Nat.blt_eq.mp h2
        rw [if_neg (by omega)]
        exact Nat.blt_eq.mpr (by omega)
def ltS (a b : Str) : Bool := sLt a.cps.toList b.cps.toList
theorem sto_str : STO ltS := ⟨fun a => sLt_irr _, fun a b h1 h2 => by
  have := sLt_tri _ _ h1 h2
  obtain ⟨⟨a⟩⟩ := a
  obtain ⟨⟨b⟩⟩ := b
  simp at this
  rw [this], fun a b c => sLt_tr _ _ _⟩
theorem ppv_inj {a b : Path} (h : ppv a = ppv b) : a = b := by
  have := eqv_ppv a b
  rw [h, eqv_ppv] at this
  simpa using this.symm
theorem ltG_lex (a b : Gone) : ltG a b = lex2 lexlt (lex2 ltS ltI) a b := by
  obtain ⟨a1, a2, a3⟩ := a
  obtain ⟨b1, b2, b3⟩ := b
  simp only [ltG, gpv, lt, ltL, lex2]
  by_cases e1 : a1 = b1
  · subst e1
    have s1 : same (ppv a1) (ppv a1) = true := by simp [ppv, same]
    simp only [s1, if_true]
    by_cases e2 : a2 = b2
    · subst e2
      have s2 : same (.str a2) (.str a2) = true := by simp [same, sEq_iff]
      simp only [s2, if_true]
      by_cases e3 : a3 = b3
      · subst e3; simp [same, ltI]
      · simp [same, e3, lt, ltI]
    · have s2 : same (.str a2) (.str b2) = false := by
        cases h : same (.str a2) (.str b2) with
        | false => rfl
        | true => cases same_eq h; exact absurd rfl e2
      simp [s2, e2, lt, ltS]
  · have s1 : same (ppv a1) (ppv b1) = false := by
      cases h : same (ppv a1) (ppv b1) with
      | false => rfl
      | true => exact absurd (ppv_inj (same_eq h)) e1
    rw [if_neg (by simp [s1]), if_neg e1, lt_ppv]
theorem sto_gone : STO ltG := by
  have := sto_path.lex (sto_str.lex sto_int)
  have e : ltG = lex2 lexlt (lex2 ltS ltI) := by
    funext a b
    exact ltG_lex a b
  rw [e]
  exact this
end Dn


namespace Dn
open PySem
theorem isum_append (a b : List Int) : (a ++ b).sum = a.sum + b.sum := sum_append a b
theorem isum_add {α : Type} (f h : α → Int) : ∀ (P : List α), (P.map fun x => f x + h x).sum = (P.map f).sum + (P.map h).sum
  | [] => rfl
  | x :: P => by simp [isum_add f h P]; omega
theorem isum_comm {α β : Type} (f : α → β → Int) (R : List β) : ∀ (P : List α), (P.map fun q => (R.map fun p => f q p).sum).sum = (R.map fun p => (P.map fun q => f q p).sum).sum
  | [] => by
    simp only [List.map_nil, List.sum_nil]
    induction R with
    | nil => rfl
    | cons x R ih => simp [← ih]
  | q :: P => by
    simp only [List.map_cons, List.sum_cons]
    rw [isum_add (fun p => f q p), isum_comm f R P]
theorem isum_zero {α : Type} {f : α → Int} : ∀ (P : List α), (∀ x ∈ P, f x = 0) → (P.map f).sum = 0
  | [], _ => rfl
  | x :: P, h => by
    rw [List.map_cons, List.sum_cons, isum_zero P fun y hy => h y (List.mem_cons_of_mem _ hy), h x List.mem_cons_self]
    rfl
theorem isum_pick {v : Int} {b : Path} : ∀ {P : List Path}, P.Nodup → (P.map fun q => if b = q then v else 0).sum = if b ∈ P then v else 0
  | [], _ => by simp
  | q :: P, nd => by
    rw [List.nodup_cons] at nd
    have ih := isum_pick (v := v) (b := b) nd.2
    simp only [List.map_cons, List.sum_cons, ih]
    by_cases e : b = q
    · subst e
      simp [nd.1]
    · simp [e]

def binsUpto (t : Th) : Nat → Stand → List Gone
  | 0, _ => []
  | n + 1, s => bins t s [] ++ binsUpto t n (newS t s [])
def Ends (t : Th) (s : Stand) (N : Nat) : Prop := Rest t (stepS t N s) ∧ ∀ j < N, ¬ Rest t (stepS t j s)
theorem least {t : Th} {s : Stand} : ∀ N, Rest t (stepS t N s) → ∃ M, M ≤ N ∧ Ends t s M := by
  intro N
  induction N using Nat.strongRecOn with
  | ind N ih =>
    intro r
    by_cases h : ∃ j, j < N ∧ Rest t (stepS t j s)
    · obtain ⟨j, h1, h2⟩ := h
      obtain ⟨M, h3, h4⟩ := ih j h1 h2
      exact ⟨M, by omega, h4⟩
    · exact ⟨N, Nat.le_refl _, r, fun j hj hr => h ⟨j, hj, hr⟩⟩
theorem Ends.next {t : Th} {s : Stand} {N : Nat} (h : Ends t s (N + 1)) : restB t s = false ∧ Ends t (newS t s []) N := by
  refine ⟨?_, h.1, fun j hj => h.2 (j + 1) (by omega)⟩
  have := h.2 0 (by omega)
  rw [show stepS t 0 s = s from rfl, ← restB_iff] at this
  simpa using this
theorem upto_ok {t : Th} (g : GoodArm t) : ∀ (N : Nat) {s : Stand}, GoodSt t s → (binsUpto t N s).length ≤ N * 60 ∧ ∀ x ∈ binsUpto t N s, x.1 ∈ t.paths ∧ (IsW x.2.1 ∨ x.2.1 = sBy) ∧ 1 ≤ x.2.2 ∧ x.2.2 ≤ 3
  | 0, _, _ => by simp [binsUpto]
  | N + 1, s, gs => by
    have a := bins_ok g gs falls_nil
    have b := upto_ok g N (newS_ok g gs falls_nil)
    refine ⟨by simp only [binsUpto, List.length_append]; omega, fun x hx => ?_⟩
    rcases List.mem_append.mp hx with z | z
    · exact a.2 x z
    · exact b.2 x z
theorem ends {t : Th} {s : Stand} (g : GoodArm t) (gs : GoodSt t s) : ∃ N, N ≤ 7 * en t s ∧ Ends t s N := by
  obtain ⟨N, h1, h2⟩ := settles g (en t s) gs (Nat.le_refl _)
  obtain ⟨M, h3, h4⟩ := least N h2
  exact ⟨M, by omega, h4⟩
mutual
theorem eqv_flat : ∀ (n : Nat) (x : PV), flat n x = true → eqv x x = true
  | n, .non, _ => by simp [eqv]
  | n, .bl b, _ => by simp [eqv]
  | n, .int i, _ => by simp [eqv]
  | n, .str x, _ => by simp [eqv, sEq_iff]
  | n, .tup xs, h => by
    cases n with
    | zero => simp [flat] at h
    | succ n =>
      simp only [flat] at h
      simp only [eqv]
      exact eqvL_flat n xs h
  | n, .lst xs, h => by
    cases n with
    | zero => simp [flat] at h
    | succ n =>
      simp only [flat] at h
      simp only [eqv]
      exact eqvL_flat n xs h
  | n, .dic t kvs, h => by simp [flat] at h
  | n, .ref k, h => by simp [flat] at h
  | n, .scr k, h => by simp [flat] at h
theorem eqvL_flat : ∀ (n : Nat) (x : List PV), flatL n x = true → eqvL x x = true
  | n, [], _ => by simp [eqvL]
  | n, x :: xs, h => by
    simp only [flatL, Bool.and_eq_true] at h
    simp only [eqvL, eqv_flat n x h.1, eqvL_flat n xs h.2]
    rfl
end
theorem Shown.ne {k B : Nat} {x : PV} (h : Shown k B x) (hk : k ≤ 60) : O.ne x x = some (.bl false) := by
  have f := h.fl 60 hk
  simp [O.ne, eqP, f, eqv_flat 60 x f]
theorem Ends.at {t : Th} {s : Stand} {N j : Nat} (h : Ends t s N) (hj : j ≤ N) : Ends t (stepS t j s) (N - j) := by
  refine ⟨?_, fun i hi => ?_⟩
  · rw [← stepS_add, show j + (N - j) = N by omega]
    exact h.1
  · rw [← stepS_add]
    exact h.2 (j + i) (by omega)
theorem Ends.not {t : Th} {s : Stand} {N j : Nat} (h : Ends t s N) (hj : j < N) : restB t (stepS t j s) = false := by
  have := h.2 j hj
  rw [← restB_iff] at this
  simpa using this
theorem nil_path {t : Th} (g : GoodArm t) : ([] : Path) ∈ t.paths := by
  have := g.a
  cases t with
  | w n => cases this
  | arm l r s h hs => rw [paths_arm]; exact List.mem_cons_self
end Dn


namespace Dn
open PySem
section
variable {α β : Type} {own : List Nat} {it : DI} {tg : DTg} {e : DE} {ts : List DE} {c : CS} {σ : Env} {src : Option Nat} {st st0 : Store} {G : Res PV → Prop}
end
section
variable {c : CS} {σ : Env} {st : Store} {a b : DE} {G : Res PV → Prop}
end

def fpv (f : List Int) : PV := .tup (f.map .int)
@[simp] theorem plain_fpv (f) : plain (fpv f) = true := by simp [fpv]
@[simp] theorem plainL_fpv (R : List (List Int)) : plainL (R.map fpv) = true := plainL_map plain_fpv R
@[simp] theorem deref_fpv (st : Store) (f) : deref st (fpv f) = fpv f := rfl
end Dn


namespace Dn
open PySem
section
variable (f : Int → Int)
def sI (ws : List Int) : Int := (ws.map f).sum
def sB (bs : List Bead) : Int := (bs.map fun b => f b.2).sum
def sG (G : List Gone) : Int := (G.map fun x => f x.2.2).sum
def sAll (t : Th) (s : Stand) : Int := (t.paths.map fun q => sB f (bdOf t s q)).sum
end
section
variable {f : Int → Int}
@[simp] theorem sI_nil : sI f [] = 0 := rfl
@[simp] theorem sB_nil : sB f [] = 0 := rfl
@[simp] theorem sG_nil : sG f [] = 0 := rfl
@[simp] theorem sI_cons (a b) : sI f (a :: b) = f a + sI f b := by simp [sI]
@[simp] theorem sB_cons (a b) : sB f (a :: b) = f a.2 + sB f b := by simp [sB]
@[simp] theorem sG_cons (a b) : sG f (a :: b) = f a.2.2 + sG f b := by simp [sG]
@[simp] theorem sI_append (a b) : sI f (a ++ b) = sI f a + sI f b := by simp [sI, isum_append]
@[simp] theorem sB_append (a b) : sB f (a ++ b) = sB f a + sB f b := by simp [sB, isum_append]
@[simp] theorem sG_append (a b) : sG f (a ++ b) = sG f a + sG f b := by simp [sG, isum_append]
theorem sI_perm {a b : List Int} (h : a.Perm b) : sI f a = sI f b := perm_sum _ h
theorem sB_perm {a b : List Bead} (h : a.Perm b) : sB f a = sB f b := perm_sum _ h
theorem sG_perm {a b : List Gone} (h : a.Perm b) : sG f a = sG f b := perm_sum _ h
theorem catch_s (h : Int) : ∀ (ws : List Int) (b : List Bead) (g : List Int), sB f (catch_ h ws b g).1 + sI f (catch_ h ws b g).2 = sB f b + sI f g + sI f ws
  | [], b, g => by simp [catch_]
  | w :: ws, b, g => by
    simp only [catch_]
    split
    · rw [catch_s h ws]; simp; omega
    · rw [catch_s h ws]; simp; omega
theorem stay_off_s (l r k : Int) : ∀ bs : List Bead, sB f (stay l r k bs) + sI f (off l r k bs) = sB f bs
  | [] => rfl
  | b :: bs => by
    have ih := stay_off_s l r k bs
    simp only [stay, off, List.map_cons, List.filter_cons] at ih ⊢
    have e : (mv k b).2 = b.2 := rfl
    cases inB l r (mv k b) with
    | true => simp [e] at ih ⊢; omega
    | false => simp [e] at ih ⊢; omega
theorem sG_flat {α : Type} (F : α → List Gone) : ∀ P : List α, sG f (P.flatMap F) = (P.map fun q => sG f (F q)).sum
  | [] => rfl
  | x :: P => by simp [sG_flat F P]
theorem sI_flat {α : Type} (F : α → List Int) : ∀ P : List α, sI f (P.flatMap F) = (P.map fun q => sI f (F q)).sum
  | [] => rfl
  | x :: P => by simp [sI_flat F P]
theorem sG_tag (q : Path) (w : Str) : ∀ ws : List Int, sG f (ws.map fun x => (q, w, x)) = sI f ws
  | [] => rfl
  | x :: ws => by simp [sG_tag q w ws]
theorem sG_A (t : Th) (s : Stand) (P : List Path) : sG f (goneA t s P) = (P.map fun q => if belQ t s q ∈ t.paths then 0 else sI f (offQ t s q)).sum := by
  unfold goneA
  rw [sG_flat]
  congr 1
  refine List.map_congr_left fun q _ => ?_
  split
  · rfl
  · exact sG_tag _ _ _
theorem sG_B (t : Th) (s : Stand) (falls : List Int) (P : List Path) : sG f (goneB t s falls P) = (P.map fun q => sI f (finQ t s falls q).2).sum := by
  unfold goneB
  rw [sG_flat]
  congr 1
  exact List.map_congr_left fun q _ => sG_tag _ _ _
theorem come_s {t : Th} {s : Stand} (falls : List Int) (g : GoodArm t) : (t.paths.map fun q => sI f (comeQ t s falls q)).sum = sI f falls + (t.paths.map fun p => if belQ t s p ∈ t.paths then sI f (offQ t s p) else 0).sum := by
  have nd := paths_nodup 3 t g.ok
  have e : ∀ q, sI f (comeQ t s falls q) = (if ([] : Path) = q then sI f falls else 0) + (t.paths.map fun p => if belQ t s p = q then sI f (offQ t s p) else 0).sum := fun q => by
    unfold comeQ
    by_cases z : q = []
    · subst z
      rw [if_pos rfl, if_pos rfl, isum_zero]
      · omega
      · intro p _
        rw [if_neg]
        simp [belQ]
    · have z' : ¬ ([] : Path) = q := fun e => z e.symm
      rw [if_neg z, if_neg z', sI_flat]
      have : (t.paths.map fun p => sI f (if belQ t s p = q then offQ t s p else [])) = t.paths.map fun p => if belQ t s p = q then sI f (offQ t s p) else 0 := by
        refine List.map_congr_left fun p _ => ?_
        split <;> rfl
      rw [this]
      omega
  have e2 : (t.paths.map fun q => sI f (comeQ t s falls q)) = t.paths.map fun q => (if ([] : Path) = q then sI f falls else 0) + (t.paths.map fun p => if belQ t s p = q then sI f (offQ t s p) else 0).sum := List.map_congr_left fun q _ => e q
  rw [e2, isum_add, isum_pick nd, isum_comm (fun q p => if belQ t s p = q then sI f (offQ t s p) else 0), if_pos (nil_path g)]
  congr 1
  congr 1
  exact List.map_congr_left fun p _ => isum_pick nd
theorem beat_s {t : Th} {s : Stand} {falls : List Int} (g : GoodArm t) (gs : GoodSt t s) (gf : FallsOk falls) : sAll f t (newS t s falls) + sG f (bins t s falls) = sAll f t s + sI f falls := by
  have b : sG f (bins t s falls) = sG f (goneA t s t.paths) + sG f (goneB t s falls t.paths) := by
    unfold bins
    rw [sG_perm (isort_perm _ _), sG_append]
  have n : sAll f t (newS t s falls) = (t.paths.map fun q => sB f (finQ t s falls q).1).sum := by
    unfold sAll
    congr 1
    refine List.map_congr_left fun q hq => ?_
    rw [bd_new g gs gf hq, sB_perm (sortB_perm _)]
  have c : (t.paths.map fun q => sB f (finQ t s falls q).1).sum + (t.paths.map fun q => sI f (finQ t s falls q).2).sum = (t.paths.map fun q => sB f (stQ t s q)).sum + (t.paths.map fun q => sI f (comeQ t s falls q)).sum := by
    rw [← isum_add, ← isum_add]
    congr 1
    refine List.map_congr_left fun q _ => ?_
    have h := catch_s (f := f) (limQ t q).2.2 (sortI (comeQ t s falls q)) (stQ t s q) []
    have p := sI_perm (f := f) (sortI_perm (comeQ t s falls q))
    simp at h
    simp only [finQ]
    omega
  have d : sAll f t s = (t.paths.map fun q => sB f (stQ t s q)).sum + (t.paths.map fun q => sI f (offQ t s q)).sum := by
    unfold sAll
    rw [← isum_add]
    congr 1
    exact List.map_congr_left fun q _ => (stay_off_s _ _ _ _).symm
  have e : (t.paths.map fun q => sI f (offQ t s q)).sum = (t.paths.map fun q => if belQ t s q ∈ t.paths then 0 else sI f (offQ t s q)).sum + (t.paths.map fun q => if belQ t s q ∈ t.paths then sI f (offQ t s q) else 0).sum := by
    rw [← isum_add]
    congr 1
    refine List.map_congr_left fun q _ => ?_
    split <;> omega
  rw [b, n, sG_A, sG_B, d, e]
  rw [come_s falls g] at c
  omega
theorem upto_s {t : Th} (g : GoodArm t) : ∀ (N : Nat) {s : Stand}, GoodSt t s → sAll f t (stepS t N s) + sG f (binsUpto t N s) = sAll f t s
  | 0, s, _ => by simp [stepS, binsUpto]
  | N + 1, s, gs => by
    have a := upto_s g N (newS_ok g gs falls_nil)
    have b := beat_s (f := f) g gs falls_nil
    simp only [stepS, binsUpto, sG_append]
    simp at b
    omega
end
end Dn


namespace Dn
open PySem
abbrev Drop := Path × Int × Int
structure DropOk (t : Th) (d : Drop) : Prop where
  at_ : d.1 ∈ t.paths
  pl : -(limQ t d.1).1 ≤ d.2.1 ∧ d.2.1 ≤ (limQ t d.1).2.1
  w : 1 ≤ d.2.2 ∧ d.2.2 ≤ 3
def endN (t : Th) (s : Stand) : Nat := ((List.range 301).find? fun j => restB t (stepS t j s)).getD 0
def stSet (t : Th) (s : Stand) (q : Path) (x : List Bead) : Stand := t.paths.map (updF (bdOf t s) q x)
def fullQ (t : Th) (s : Stand) (q : Path) : Bool := decide (((bdOf t s q).length : Int) = (limQ t q).2.2)
def layS (t : Th) (s : Stand) (d : Drop) : Stand := if fullQ t s d.1 then s else stSet t s d.1 (sortB (bdOf t s d.1 ++ [d.2]))
def layG (t : Th) (s : Stand) (d : Drop) : List Gone := if fullQ t s d.1 then [(d.1, sBy, d.2.2)] else []
theorem map_good {t : Th} {F : Path → List Bead} (h : ∀ q ∈ t.paths, ∃ l r sl h hs, t.sub q = some (.arm l r sl h hs) ∧ Ok 3 (.arm l r sl h hs) ∧ BeadsOk l r h (F q)) : GoodSt t (t.paths.map F) := by
  refine ⟨by simp, fun x hx => ?_⟩
  have e : t.paths.zip (t.paths.map F) = t.paths.map fun q => (q, F q) := by
    generalize t.paths = P
    induction P with
    | nil => rfl
    | cons p P ih => simp [ih]
  rw [e] at hx
  obtain ⟨q, hq, rfl⟩ := List.mem_map.mp hx
  exact h q hq
theorem bd_map {t : Th} {F : Path → List Bead} (g : GoodArm t) {q : Path} (hq : q ∈ t.paths) : bdOf t (t.paths.map F) q = F q := by
  have e : t.paths.zip (t.paths.map F) = t.paths.map fun q => (q, F q) := by
    generalize t.paths = P
    induction P with
    | nil => rfl
    | cons p P ih => simp [ih]
  have nd := paths_nodup 3 t g.ok
  unfold bdOf
  rw [e]
  exact lk_mem (z := t.paths.map fun q => (q, F q)) (by simpa [Function.comp_def] using nd) (q, F q) (List.mem_map.mpr ⟨q, hq, rfl⟩)
theorem layS_ok {t : Th} {s : Stand} {d : Drop} (g : GoodArm t) (gs : GoodSt t s) (hd : DropOk t d) : GoodSt t (layS t s d) := by
  unfold layS
  split
  · exact gs
  · rename_i nf
    refine map_good fun q hq => ?_
    obtain ⟨l, r, sl, h, hs, f1, f2, f3, f4⟩ := info g gs hq
    refine ⟨l, r, sl, h, hs, f1, f2, ?_⟩
    unfold updF
    split
    · rename_i e
      subst e
      have pl := hd.pl
      have w := hd.w
      rw [f4] at pl
      simp only [fullQ, f4, decide_eq_true_eq] at nf
      refine ⟨?_, fun b hb => ?_, sortB_sorted _⟩
      · rw [(sortB_perm _).length_eq]
        have := f3.len
        simp
        omega
      · rcases List.mem_append.mp ((sortB_perm _).mem_iff.mp hb) with z | z
        · exact f3.ok b z
        · rw [List.mem_singleton.mp z]
          exact ⟨pl, w⟩
    · exact f3
theorem layS_bd {t : Th} {s : Stand} {d : Drop} (g : GoodArm t) {q : Path} (hq : q ∈ t.paths) : bdOf t (layS t s d) q = if fullQ t s d.1 then bdOf t s q else updF (bdOf t s) d.1 (sortB (bdOf t s d.1 ++ [d.2])) q := by
  unfold layS
  split
  · rfl
  · exact bd_map g hq
def setS (t : Th) (s : Stand) : Stand := stepS t (endN t s) s
def setG (t : Th) (s : Stand) : List Gone := isort ltG (binsUpto t (endN t s) s)
theorem setS_ok {t : Th} {s : Stand} (g : GoodArm t) (gs : GoodSt t s) : GoodSt t (setS t s) := stepS_ok g _ gs
section
variable {f : Int → Int}
theorem isum_upd {v : Path → Int} {q : Path} {x : Int} : ∀ {P : List Path}, P.Nodup → q ∈ P → (P.map fun p => if p = q then x else v p).sum = (P.map v).sum + x - v q
  | [], _, h => by cases h
  | p :: P, nd, h => by
    rw [List.nodup_cons] at nd
    by_cases e : p = q
    · subst e
      have : (P.map fun p' => if p' = p then x else v p') = P.map v := List.map_congr_left fun p' hp => by
        rw [if_neg]
        intro z
        exact nd.1 (z ▸ hp)
      simp [this]
      omega
    · have ih := isum_upd (v := v) (x := x) nd.2 ((List.mem_cons.mp h).resolve_left fun z => e z.symm)
      simp [e, ih]
      omega
theorem lay_s {t : Th} {s : Stand} {d : Drop} (g : GoodArm t) (gs : GoodSt t s) (hd : DropOk t d) : sAll f t (layS t s d) + sG f (layG t s d) = sAll f t s + f d.2.2 := by
  unfold layG
  cases e : fullQ t s d.1 with
  | true =>
    have : layS t s d = s := by simp [layS, e]
    rw [this]
    simp
  | false =>
    have nd := paths_nodup 3 t g.ok
    have h : sAll f t (layS t s d) = (t.paths.map fun q => if q = d.1 then sB f (bdOf t s d.1 ++ [d.2]) else sB f (bdOf t s q)).sum := by
      unfold sAll
      congr 1
      refine List.map_congr_left fun q hq => ?_
      rw [layS_bd g hq, if_neg (by simp [e])]
      unfold updF
      split
      · exact sB_perm (sortB_perm _)
      · rfl
    rw [h, isum_upd nd hd.at_]
    simp [sAll]
    omega
end

def GoneOk (t : Th) (x : Gone) : Prop := x.1 ∈ t.paths ∧ (IsW x.2.1 ∨ x.2.1 = sBy) ∧ 1 ≤ x.2.2 ∧ x.2.2 ≤ 3
end Dn


namespace Dn
open PySem
section
variable {cs : CS} {σ : Env} {st : Store} {a b : DE}
@[simp] theorem lstV_lst (xs : List PV) : D.lstV st (.lst xs) = true := rfl
end
end Dn


namespace Dn
open PySem
section
variable {c : CS} {σ : Env} {st : Store} {a b : DE} {G : Res PV → Prop}
end

end Dn


namespace Dn
open PySem
end Dn


namespace Dn
open PySem
theorem sI_count (k : Int) : ∀ L : List Int, sI (fun w => if w = k then 1 else 0) L = (L.count k : Int)
  | [] => rfl
  | x :: L => by
    by_cases h : x = k
    · simp [sI_count k L, h]; omega
    · simp [sI_count k L, h]
theorem perm_of_sI {a b : List Int} (h : ∀ f : Int → Int, sI f a = sI f b) : a.Perm b := by
  rw [List.perm_iff_count]
  intro k
  have := h fun w => if w = k then 1 else 0
  rw [sI_count, sI_count] at this
  omega
def wts (t : Th) (s : Stand) : List Int := t.paths.flatMap fun q => (bdOf t s q).map (·.2)
theorem sI_wts (f : Int → Int) (t : Th) (s : Stand) : sI f (wts t s) = sAll f t s := by
  unfold wts sAll
  rw [sI_flat]
  congr 1
  refine List.map_congr_left fun q _ => ?_
  simp [sI, sB, Function.comp_def]
theorem sI_gone (f : Int → Int) (G : List Gone) : sI f (G.map (·.2.2)) = sG f G := by simp [sI, sG, Function.comp_def]

theorem isort_isort (L : List Gone) : isort ltG (isort ltG L) = isort ltG L := isort_one sto_gone (isort_perm _ _)

end Dn
namespace Dn
open PySem
end Dn


namespace Dn
open PySem
def sKept : Str := ⟨#[107, 101, 112, 116]⟩
def sHere : Str := ⟨#[104, 101, 114, 101]⟩
def sWent : Str := ⟨#[119, 101, 110, 116]⟩
def sPast : Str := ⟨#[112, 97, 115, 116]⟩
def gspv (G : List Gone) : PV := .tup (G.map gpv)
@[simp] theorem plain_gspv (G) : plain (gspv G) = true := by simp [gspv, plainL_gpv]
@[simp] theorem deref_gspv (st : Store) (G) : deref st (gspv G) = gspv G := rfl
def pastPV (x : Stand × List Gone) : PV := .tup [spv x.1, gspv x.2]
def mobFs (t : Th) (s : Stand) (G : List Gone) (pl : Nat) : List (Str × PV) := [(sKept, t.pv), (sHere, spv s), (sWent, gspv G), (sPast, .ref pl)]
structure MobAt (c : Nat) (st : Store) (o pl : Nat) (t : Th) (s : Stand) (G : List Gone) (past : List (Stand × List Gone)) : Prop where
  ob : st[o]? = some (.ins c (mobFs t s G pl))
  ls : st[pl]? = some (.lst (past.map pastPV))
structure KeepM (st st' : Store) (o pl : Nat) : Prop where
  len : st'.length = st.length
  keep : ∀ j, j ≠ o → j ≠ pl → st'[j]? = st[j]?
theorem KeepM.refl (st : Store) (o pl : Nat) : KeepM st st o pl := ⟨rfl, fun _ _ _ => rfl⟩
theorem MobAt.ne {c st o pl t s G past} (h : MobAt c st o pl t s G past) : o ≠ pl := by
  intro e
  have a := h.ob
  have b := h.ls
  rw [e, b] at a
  cases a
structure MobOk (t : Th) (s : Stand) (G : List Gone) (past : List (Stand × List Gone)) : Prop where
  st : GoodSt t s
  gone : ∀ x ∈ G, GoneOk t x
  srt : isort ltG G = G
  old : ∀ x ∈ past, GoodSt t x.1 ∧ (∀ y ∈ x.2, GoneOk t y) ∧ isort ltG x.2 = x.2
theorem MobOk.turn {t s G past s' B} (h : MobOk t s G past) (g' : GoodSt t s') (hB : ∀ x ∈ B, GoneOk t x) : MobOk t s' (isort ltG (G ++ B)) (past ++ [(s, G)]) := by
  refine ⟨g', fun x hx => ?_, isort_isort _, fun x hx => ?_⟩
  · rcases List.mem_append.mp ((isort_perm _ _).mem_iff.mp hx) with z | z
    · exact h.gone x z
    · exact hB x z
  · rcases List.mem_append.mp hx with z | z
    · exact h.old x z
    · rw [List.mem_singleton.mp z]; exact ⟨h.st, h.gone, h.srt⟩
section
variable {cs : CS} {σ : Env} {st : Store} {a : DE} {c o pl : Nat} {t : Th} {s : Stand} {G : List Gone} {past : List (Stand × List Gone)}
end
theorem KeepM.trans {a b c : Store} {o pl : Nat} (h : KeepM a b o pl) (k : KeepM b c o pl) : KeepM a c o pl := ⟨k.len.trans h.len, fun j h1 h2 => (k.keep j h1 h2).trans (h.keep j h1 h2)⟩
theorem KeepM.pen {st st' : Store} {o pl p : Nat} (k : KeepM st st' o pl) (h1 : p ≠ o) (h2 : p ≠ pl) (h : Pen st p) : Pen st' p := by
  obtain ⟨a, b, c, e⟩ := h
  exact ⟨a, b, c, by rw [k.keep p h1 h2]; exact e⟩
theorem MobAt.step {c st st' o pl t s G past p} (h : MobAt c st o pl t s G past) (k : Step p st st') (h1 : o ≠ p) (h2 : pl ≠ p) : MobAt c st' o pl t s G past :=
  ⟨by rw [k.keep o (List.getElem?_eq_some_iff.mp h.ob).1 h1]; exact h.ob, by rw [k.keep pl (List.getElem?_eq_some_iff.mp h.ls).1 h2]; exact h.ls⟩
end Dn


namespace Dn
open PySem
theorem goneA_mem {t : Th} {s : Stand} {P : List Path} {x : Gone} (h : x ∈ goneA t s P) : x.1 ∈ P ∧ x.2.1 = wdQ t s x.1 ∧ x.2.2 ∈ offQ t s x.1 := by
  obtain ⟨q, hq, h⟩ := List.mem_flatMap.mp h
  split at h
  · cases h
  · obtain ⟨w, hw, rfl⟩ := List.mem_map.mp h
    exact ⟨hq, rfl, hw⟩
theorem goneB_mem {t : Th} {s : Stand} {f : List Int} {P : List Path} {x : Gone} (h : x ∈ goneB t s f P) : x.2.1 = sBy := by
  obtain ⟨q, hq, h⟩ := List.mem_flatMap.mp h
  obtain ⟨w, hw, rfl⟩ := List.mem_map.mp h
  rfl
theorem off_mem {t : Th} {s : Stand} {q : Path} {w : Int} (g : GoodArm t) (gs : GoodSt t s) (hq : q ∈ t.paths) (h : w ∈ offQ t s q) : wdQ t s q ≠ sLevel ∧ ((if wdQ t s q = sRight then (limQ t q).2.1 else -(limQ t q).1), w) ∈ bdOf t s q := by
  obtain ⟨l, r, sl, hh, hs, f1, f2, f3, f4⟩ := info g gs hq
  simp only [offQ, f4] at h
  simp only [f4]
  have wi := WD_is (bdOf t s) t q
  unfold off at h
  obtain ⟨b, hb, rfl⟩ := List.mem_map.mp h
  obtain ⟨hb, ho⟩ := List.mem_filter.mp hb
  obtain ⟨a, ha, rfl⟩ := List.mem_map.mp hb
  have lim := (f3.ok a ha).1
  have ho2 := inB_not.mp (by simpa using ho)
  simp only [mv_1, kQ] at ho2
  have e1 : sLeft ≠ sRight := by decide +kernel
  have e2 : sLeft ≠ sLevel := by decide +kernel
  have e3 : sRight ≠ sLevel := by decide +kernel
  change wdQ t s q = sLeft ∨ wdQ t s q = sLevel ∨ wdQ t s q = sRight at wi
  rcases wi with z | z | z
  · rw [z] at ho2 ⊢
    rw [stp_l] at ho2
    refine ⟨e2, ?_⟩
    rw [if_neg e1]
    have : a.1 = -l := by omega
    rw [← this]
    exact ha
  · rw [z] at ho2
    rw [stp_v] at ho2
    omega
  · rw [z] at ho2 ⊢
    rw [stp_r] at ho2
    refine ⟨e3, ?_⟩
    rw [if_pos rfl]
    have : a.1 = r := by omega
    rw [← this]
    exact ha
theorem bins_right {t : Th} {s : Stand} {f : List Int} (g : GoodArm t) (gs : GoodSt t s) {x : Gone} (h : x ∈ bins t s f) : x.2.1 = sBy ∨ (x.2.1 ≠ sLevel ∧ wdQ t s x.1 = x.2.1 ∧ ((if x.2.1 = sRight then (limQ t x.1).2.1 else -(limQ t x.1).1), x.2.2) ∈ bdOf t s x.1) := by
  rcases List.mem_append.mp ((isort_perm _ _).mem_iff.mp h) with z | z
  · obtain ⟨h1, h2, h3⟩ := goneA_mem z
    have := off_mem g gs h1 h3
    rw [← h2] at this
    exact .inr ⟨this.1, h2.symm, this.2⟩
  · exact .inl (goneB_mem z)
def LabOk (x : Gone) : Prop := x.2.1 ≠ sLevel
theorem by_lab : sBy ≠ sLevel := by decide +kernel
theorem bins_lab {t : Th} {s : Stand} {f : List Int} (g : GoodArm t) (gs : GoodSt t s) : ∀ x ∈ bins t s f, LabOk x := fun x h => by
  rcases bins_right g gs h with z | z
  · unfold LabOk; rw [z]; exact by_lab
  · exact z.1
theorem upto_lab {t : Th} (g : GoodArm t) : ∀ (N : Nat) {s : Stand}, GoodSt t s → ∀ x ∈ binsUpto t N s, LabOk x
  | 0, _, _, x, hx => by cases hx
  | n + 1, s, gs, x, hx => by
    rcases List.mem_append.mp hx with z | z
    · exact bins_lab g gs x z
    · exact upto_lab g n (newS_ok g gs falls_nil) x z
inductive Deed | drop (d : Drop) | beat (f : List Int) | set
def Deed.ok (t : Th) : Deed → Prop
  | .drop d => DropOk t d
  | .beat f => FallsOk f
  | .set => True
def sDrop : Str := ⟨#[100, 114, 111, 112]⟩
def sBeat : Str := ⟨#[98, 101, 97, 116]⟩
def sSettle : Str := ⟨#[115, 101, 116, 116, 108, 101]⟩
def Deed.pv : Deed → PV
  | .drop d => .tup [.str sDrop, ppv d.1, .int d.2.1, .int d.2.2]
  | .beat f => .tup [.str sBeat, fpv f]
  | .set => .tup [.str sSettle]
@[simp] theorem deref_deed (st : Store) (d : Deed) : deref st d.pv = d.pv := by cases d <;> rfl
@[simp] theorem plain_deed (d : Deed) : plain d.pv = true := by cases d <;> simp [Deed.pv]
def goS (t : Th) (s : Stand) : Deed → Stand
  | .drop d => layS t s d
  | .beat f => newS t s f
  | .set => setS t s
def goB (t : Th) (s : Stand) : Deed → List Gone
  | .drop d => layG t s d
  | .beat f => bins t s f
  | .set => setG t s
def goW : Deed → List Int
  | .drop d => [d.2.2]
  | .beat f => f
  | .set => []
section
variable {t : Th} {s : Stand} {d : Deed}
theorem goS_ok (g : GoodArm t) (gs : GoodSt t s) (h : d.ok t) : GoodSt t (goS t s d) := by
  cases d with
  | drop d => exact layS_ok g gs h
  | beat f => exact newS_ok g gs h
  | set => exact setS_ok g gs
theorem goB_ok (g : GoodArm t) (gs : GoodSt t s) (h : d.ok t) : ∀ x ∈ goB t s d, GoneOk t x ∧ LabOk x := by
  cases d with
  | drop d =>
    intro x hx
    simp only [goB, layG] at hx
    split at hx
    · rw [List.mem_singleton.mp hx]
      exact ⟨⟨h.at_, .inr rfl, h.w⟩, by_lab⟩
    · cases hx
  | beat f => exact fun x hx => ⟨(bins_ok g gs h).2 x hx, bins_lab g gs x hx⟩
  | set =>
    intro x hx
    have hx := (isort_perm _ _).mem_iff.mp hx
    exact ⟨(upto_ok g _ gs).2 x hx, upto_lab g _ gs x hx⟩
theorem go_s (f : Int → Int) (g : GoodArm t) (gs : GoodSt t s) (h : d.ok t) : sAll f t (goS t s d) + sG f (goB t s d) = sAll f t s + sI f (goW d) := by
  cases d with
  | drop d =>
    have := lay_s (f := f) g gs h
    simpa [goS, goB, goW, sI] using this
  | beat k => exact beat_s g gs h
  | set =>
    have := upto_s (f := f) g (endN t s) gs
    have e : sI f (goW .set) = 0 := rfl
    rw [e]
    simp only [goS, goB, setS, setG, sG_perm (isort_perm ltG _)]
    omega
theorem go_perm {G : List Gone} {V : List Int} (g : GoodArm t) (gs : GoodSt t s) (h : d.ok t) (hV : (wts t s ++ G.map (·.2.2)).Perm V) : (wts t (goS t s d) ++ (isort ltG (G ++ goB t s d)).map (·.2.2)).Perm (V ++ goW d) := by
  refine perm_of_sI fun f => ?_
  have a := go_s f g gs h
  have b := sI_perm (f := f) hV
  rw [sI_append, sI_wts, sI_gone] at b
  rw [sI_append, sI_append, sI_wts, sI_gone, sG_perm (isort_perm ltG _), sG_append]
  omega
end

theorem MobAt.other {c st o pl t s G past} (h : MobAt c st o pl t s G past) {k : Nat} {x : PO} (h1 : k ≠ o) (h2 : k ≠ pl) : MobAt c (st.set k x) o pl t s G past :=
  ⟨by rw [List.getElem?_set_ne h1]; exact h.ob, by rw [List.getElem?_set_ne h2]; exact h.ls⟩
structure Kept (t : Th) (s : Stand) (G : List Gone) (V : List Int) : Prop where
  pm : (wts t s ++ G.map (·.2.2)).Perm V
  lab : ∀ x ∈ G, LabOk x
theorem Kept.go {t : Th} {s : Stand} {G : List Gone} {V : List Int} {d : Deed} (k : Kept t s G V) (g : GoodArm t) (gs : GoodSt t s) (h : d.ok t) : Kept t (goS t s d) (isort ltG (G ++ goB t s d)) (V ++ goW d) :=
  ⟨go_perm g gs h k.pm, fun x hx => by
    rcases List.mem_append.mp ((isort_perm _ _).mem_iff.mp hx) with z | z
    · exact k.lab x z
    · exact (goB_ok g gs h x z).2⟩
theorem MobOk.go {t : Th} {s : Stand} {G : List Gone} {past : List (Stand × List Gone)} {d : Deed} (ok : MobOk t s G past) (g : GoodArm t) (h : d.ok t) : MobOk t (goS t s d) (isort ltG (G ++ goB t s d)) (past ++ [(s, G)]) :=
  ok.turn (goS_ok g ok.st h) fun x hx => (goB_ok g ok.st h x hx).1
end Dn


namespace Dn
open PySem
@[simp] theorem e_callk {f : Nat} {k : KwS} {es ws : DEs} {dfl : List PV} {cs : CS} {σ : Env} {st : Store} : D.callk f k es ws dfl cs σ st = (es cs σ st).bind fun vs st => (ws cs σ st).bind fun zs st => if vs.length.beq k.n && zs.length.beq k.ks.length then cs f (pick k.perm (vs ++ zs ++ dfl)) st else .bad := rfl
@[simp] theorem pick_nil {α : Type} (xs : List α) : pick [] xs = [] := rfl
@[simp] theorem pick_cons {α : Type} (i : Nat) (p : List Nat) (xs : List α) : pick (i :: p) xs = (match xs[i]? with | some x => x :: pick p xs | none => pick p xs) := by
  unfold pick
  rw [List.filterMap_cons]
  split <;> simp_all
end Dn


namespace Dn
open PySem
structure Grow (st st' : Store) : Prop where
  len : st.length ≤ st'.length
  keep : ∀ j, j < st.length → st'[j]? = st[j]?
theorem Grow.refl (st : Store) : Grow st st := ⟨Nat.le_refl _, fun _ _ => rfl⟩
theorem Grow.trans {a b c : Store} (h : Grow a b) (k : Grow b c) : Grow a c := ⟨Nat.le_trans h.len k.len, fun j hj => (k.keep j (Nat.lt_of_lt_of_le hj h.len)).trans (h.keep j hj)⟩
theorem Grow.add (st K : Store) : Grow st (st ++ K) := ⟨by simp, fun j hj => by rw [List.getElem?_append_left hj]⟩
theorem MobAt.grow {c st st' o pl t s G past} (h : MobAt c st o pl t s G past) (k : Grow st st') : MobAt c st' o pl t s G past :=
  ⟨by rw [k.keep o (List.getElem?_eq_some_iff.mp h.ob).1]; exact h.ob, by rw [k.keep pl (List.getElem?_eq_some_iff.mp h.ls).1]; exact h.ls⟩
theorem Grow.pen {st st' : Store} {p : Nat} (k : Grow st st') (h : Pen st p) : Pen st' p := by
  have := h.lt
  obtain ⟨a, b, c, e⟩ := h
  exact ⟨a, b, c, by rw [k.keep p this]; exact e⟩
end Dn


namespace Dn
open PySem
end Dn


namespace Dn
open PySem
structure FairSt (t : Th) (s : Stand) : Prop where
  len : s.length = t.paths.length
  sm : ∀ q ∈ t.paths, (bdOf t s q).length ≤ 4 ∧ ∀ b ∈ bdOf t s q, O.small b.1 = true
theorem FairSt.nodup {t : Th} {s : Stand} (g : GoodArm t) (gs : FairSt t s) : ((t.paths.zip s).map (·.1)).Nodup := by
  rw [zip_fst gs.len]
  exact paths_nodup 3 t g.ok


end Dn


namespace Dn
open PySem
section
variable {t : Th} {s : Stand} {f : List Int}
end
end Dn

namespace Dn
open PySem
end Dn

namespace Dn
open PySem
end Dn

namespace Dn
open PySem
end Dn

namespace Dn
open PySem
end Dn

namespace Dn
open PySem
end Dn

namespace Dn
open PySem
end Dn

namespace Dn
open PySem
end Dn

namespace Dn
open PySem
theorem x_law_cell_at (n) (xs : List Int) (i : Nat) (hn : 1 ≤ n) (st) : ∃ v : Int, callN tbl n i__law_cell_at [.scr xs, .int i] st = .ok (.int v) st := by
  obtain ⟨j, rfl, hm⟩ := up hn
  by_cases h : i < xs.length
  · refine ⟨xs[i], fn_ret t__law_cell_at rfl (by simp) ?_ (by simp)⟩
    have g := getL_nat (xs := xs.map PV.int) (i := i) (v := .int xs[i]) (by simp [h])
    have h' : ((i : Int) < (xs.length : Int)) := by omega
    simp [b__law_cell_at, start, O.len, O.lt, h', O.item, g]
  · refine ⟨0, fn_ret t__law_cell_at rfl (by simp) ?_ (by simp)⟩
    have h' : ¬ ((i : Int) < (xs.length : Int)) := by omega
    simp [b__law_cell_at, start, O.len, O.lt, h']

theorem x_law_pen (n) (v : Int) (hn : 1 ≤ n) (st : Store) : ∃ (a b : Int), callN tbl n i__law_pen [.int v] st = .ok (.ref st.length) (st ++ [.lst [.int a, .int b, .int 0]]) := by
  obtain ⟨j, rfl, hm⟩ := up hn
  suffices key : ∃ w st', callN tbl (j + 1) i__law_pen [.int v] st = .ok w st' ∧ ∃ (a b : Int), w = .ref st.length ∧ st' = st ++ [.lst [.int a, .int b, .int 0]] by
    obtain ⟨w, st', h, a, b, rfl, rfl⟩ := key
    exact ⟨a, b, h⟩
  refine fn_rets (n := j) (vs := [.int v]) (st := st) t__law_pen (fun w st' => ∃ (a b : Int), w = .ref st.length ∧ st' = st ++ [.lst [.int a, .int b, .int 0]]) rfl fun Q hQ => ?_
  simp [b__law_pen, start, O.max2, O.sub, O.pow, O.mod, O.add, O.small]
  exact rets (hQ _ _ ⟨_, _, rfl, rfl⟩)

theorem x_law_draw (n) {p : Nat} {m : Int} (hm : 0 < m) (hm2 : m < 1073741824) (hn : 1 ≤ n) {st : Store} (pen : Pen st p) : ∃ (k : Int) (st' : Store), callN tbl n i__law_draw [.ref p, .int m] st = .ok (.int k) st' ∧ (0 ≤ k ∧ k < m) ∧ Step p st st' := by
  obtain ⟨j, rfl, hn⟩ := up hn
  have s0 := Step.refl pen
  have lt := pen.lt
  obtain ⟨a, b, c, e⟩ := pen
  suffices key : ∃ v st', callN tbl (j + 1) i__law_draw [.ref p, .int m] st = .ok v st' ∧ ∃ k : Int, v = .int k ∧ (0 ≤ k ∧ k < m) ∧ Step p st st' by
    obtain ⟨v, st', h1, k, rfl, h2, h3⟩ := key
    exact ⟨k, st', h1, h2, h3⟩
  refine fn_rets t__law_draw (fun v st' => ∃ k : Int, v = .int k ∧ (0 ≤ k ∧ k < m) ∧ Step p st st') rfl fun Q hQ => ?_
  have d0 := deref_at e
  by_cases ha : 0 < a
  · simp [b__law_draw, g_tsub, start, d0, item0, gt_ii, ha, mod_ii hm, fdiv_ii hm hm2, store0 e]
    exact rets (hQ _ _ ⟨_, rfl, mod_in hm, s0.at (a / m) b c⟩)
  · have e1 : (st.set p (.lst [.int a, .int b, .int (c + 1)]))[p]? = some (.lst [.int a, .int b, .int (c + 1)]) := get_set lt
    generalize hb : (b * 48271 + 1009 * (c + 1) + 7) % 2147483647 = b'
    have sb : O.small b' = true := hb ▸ small_mod (by decide) (by decide)
    have e2 : (st.set p (.lst [.int a, .int b', .int (c + 1)]))[p]? = some (.lst [.int a, .int b', .int (c + 1)]) := get_set lt
    have s1 : O.small ((b' * b' + 69621 * b' + 11) % 2147483629) = true := small_mod (by decide) (by decide)
    have k1 := mulx_r (b := 48271) (by decide) b
    have k2 := mulx_ii (a := 1009) (by decide) (c + 1)
    have k3 := mulx_ii (a := 69621) (by decide) b'
    have k4 := mulx_ii (a := 40014) (by decide) ((b' * b' + 69621 * b' + 11) % 2147483629)
    have m1 := fun a => mod_ii (b := 2147483647) (by decide) a
    have m2 := fun a => mod_ii (b := 2147483629) (by decide) a
    have m3 := fun a => mod_ii (b := 2147483587) (by decide) a
    have f1 := fun a => fdiv_ii (b := 16) (by decide) (by decide) a
    simp [b__law_draw, g_tsub, start, d0, item0, item1, item2, gt_ii, ha, add_ii, store2 e, deref_at e1, k1, k2, m1, hb, store1 e1, deref_at e2, mulx_ii sb, k3, m2, mulx_ii s1, k4, m3, f1, mod_ii hm]
    exact rets (hQ _ _ ⟨_, rfl, mod_in hm, s0.at a b' (c + 1)⟩)

end Dn


namespace Dn
open PySem
theorem Ok.le {d d' : Nat} {t : Th} (h : Ok d t) (e : d ≤ d') : Ok d' t := by
  obtain ⟨k, rfl⟩ : ∃ k, d' = d + k := ⟨d' - d, by omega⟩
  clear e
  induction k with
  | zero => exact h
  | succ k ih => exact ih.up



def putU (u : Th) : Path → Th → Th
  | [], _ => u
  | p :: q, .arm l r s h hs => .arm l r s h (hs.map fun x => if x.1 = p then (x.1, putU u q x.2) else x)
  | _ :: _, .w n => .w n

mutual
def Th.deep : Th → Nat
  | .w _ => 0
  | .arm _ _ _ _ hs => 1 + deepL hs
def deepL : List (Int × Th) → Nat
  | [] => 0
  | (_, t) :: r => max t.deep (deepL r)
end
end Dn


namespace Dn
open PySem

end Dn

namespace Dn
open PySem
end Dn

namespace Dn
open PySem
end Dn

namespace Dn
open PySem
end Dn

namespace Dn
open PySem
end Dn

namespace Dn
open PySem
end Dn


namespace Dn
open PySem
structure ShE (k B : Nat) (x : PV) : Prop where
  fl : ∀ n, k ≤ n → O.flatE n x = true
  ok : O.okInt x = true
  sz : O.msz x ≤ B
  rp : rOk x = true
theorem Shown.e {k B : Nat} {x : PV} (h : Shown k B x) : ShE k B x := ⟨fun n hn => flatE_of n x (h.fl n hn), h.ok, h.sz, h.rp⟩
theorem ShE.mono {k B k' B' : Nat} {x : PV} (h : ShE k B x) (h1 : k ≤ k') (h2 : B ≤ B') : ShE k' B' x := ⟨fun n hn => h.fl n (by omega), h.ok, Nat.le_trans h.sz h2, h.rp⟩
theorem she_all {k B : Nat} : ∀ {xs : List PV}, (∀ x ∈ xs, ShE k B x) → (∀ n, k ≤ n → O.flatEL n xs = true) ∧ O.okIntL xs = true ∧ O.mszL xs ≤ xs.length * (B + 2) ∧ rOkL xs = true
  | [], _ => ⟨fun _ _ => by simp [O.flatEL], by simp [O.okIntL], by simp [O.mszL], by simp [rOkL]⟩
  | x :: xs, h => by
    have h1 := h x List.mem_cons_self
    obtain ⟨a, b, c, d⟩ := she_all (xs := xs) fun y hy => h y (List.mem_cons_of_mem _ hy)
    have e : (xs.length + 1) * (B + 2) = xs.length * (B + 2) + (B + 2) := Nat.succ_mul ..
    have := h1.sz
    refine ⟨fun n hn => by simp [O.flatEL, h1.fl n hn, a n hn], by simp [O.okIntL, h1.ok, b], ?_, by simp [rOkL, h1.rp, d]⟩
    simp only [O.mszL, List.length_cons, e]
    omega
theorem ShE.tup {k B m : Nat} {xs : List PV} (h : ∀ x ∈ xs, ShE k B x) (hm : xs.length ≤ m) : ShE (k + 1) (m * (B + 2) + 3) (.tup xs) := by
  obtain ⟨a, b, c, d⟩ := she_all h
  have : xs.length * (B + 2) ≤ m * (B + 2) := Nat.mul_le_mul_right _ hm
  refine ⟨fun n hn => ?_, by simpa [O.okInt] using b, by simp only [O.msz]; omega, by simpa [rOk] using d⟩
  obtain ⟨j, rfl⟩ : ∃ j, n = j + 1 := ⟨n - 1, by omega⟩
  simp only [O.flatE]
  exact a j (by omega)
theorem ShE.lst {k B m : Nat} {xs : List PV} (h : ∀ x ∈ xs, ShE k B x) (hm : xs.length ≤ m) : ShE (k + 1) (m * (B + 2) + 3) (.lst xs) := by
  obtain ⟨a, b, c, d⟩ := she_all h
  have : xs.length * (B + 2) ≤ m * (B + 2) := Nat.mul_le_mul_right _ hm
  refine ⟨fun n hn => ?_, by simpa [O.okInt] using b, by simp only [O.msz]; omega, by simpa [rOk] using d⟩
  obtain ⟨j, rfl⟩ : ∃ j, n = j + 1 := ⟨n - 1, by omega⟩
  simp only [O.flatE]
  exact a j (by omega)
theorem ShE.int {i : Int} (h : i.natAbs < 1000000000000) : ShE 0 13 (.int i) := (Shown.int h).e
theorem ShE.bl (b : Bool) : ShE 0 13 (.bl b) := (Shown.bl b).e.mono (by omega) (by omega)
theorem ShE.non : ShE 0 13 .non := ⟨fun _ _ => by simp [O.flatE], by simp [O.okInt], by simp [O.msz], by simp [rOk]⟩
theorem ShE.dic : ShE 0 13 (.dic false []) := ⟨fun _ _ => by simp [O.flatE], by simp [O.okInt], by simp [O.msz], by simp [rOk]⟩
theorem ShE.repr {x : PV} (h : ShE 60 10000000 x) : O.repr x = some (.str (O.rep x)) := by
  have h1 := h.fl 60 (Nat.le_refl _)
  have h2 := h.ok
  have h3 := h.sz
  unfold O.repr
  rw [if_pos (by simp [h1, h2, h3])]
theorem ShE.eq {x : PV} (h : ShE 60 10000000 x) : O.eq (.str (O.rep x)) (.str (O.rep x)) = some (.bl true) := eq_str (rOk_rep x h.rp)

end Dn


namespace Dn
open PySem
variable {cs : CS} {σ : Env} {st : Store}
theorem ShE.list {x : List PV} {k B : Nat} (h : ShE k B (.tup x)) : ShE k B (.lst x) := by
  refine ⟨fun n hn => ?_, ?_, ?_, ?_⟩
  · have := h.fl n hn
    cases n with
    | zero => simp [O.flatE] at this
    | succ n => simp only [O.flatE] at this ⊢; exact this
  · have := h.ok; simp only [O.okInt] at this ⊢; exact this
  · have := h.sz; simp only [O.msz] at this ⊢; exact this
  · have := h.rp; simp only [rOk] at this ⊢; exact this
end Dn

namespace Dn
open PySem
end Dn


namespace Dn
open PySem
mutual
theorem load_shift (bd : Path → List Bead) (a : Path) : ∀ (u : Th) (q : Path), loadT bd (a ++ q) u = loadT (fun x => bd (a ++ x)) q u
  | .w n, q => by rw [load_w, load_w]
  | .arm l r s h hs, q => by
    rw [loadT, loadT, loadL_shift bd a hs q]
theorem loadL_shift (bd : Path → List Bead) (a : Path) : ∀ (hs : List (Int × Th)) (q : Path), loadL bd (a ++ q) hs = loadL (fun x => bd (a ++ x)) q hs
  | [], q => by rw [loadL, loadL]
  | (p, t) :: r, q => by
    rw [loadL, loadL, List.append_assoc, load_shift bd a t (q ++ [p]), loadL_shift bd a r q]
end
structure Part (A : Th) (p : Int) (P : Th) : Prop where
  g : GoodArm A
  sub : A.sub [p] = some P
  a : P.isA = true
def inSt (A : Th) (m : Stand) (p : Int) (P : Th) : Stand := P.paths.map fun q => bdOf A m (p :: q)
def inP (p : Int) (q : Path) : Bool := decide (q.take 1 = [p])
theorem inP_iff {p : Int} {q : Path} : inP p q = true ↔ ∃ r, q = p :: r := by
  unfold inP
  rw [decide_eq_true_eq]
  cases q with
  | nil => simp
  | cons x q => simp
theorem inP_nil {p : Int} : inP p [] = false := rfl
theorem inP_cons {p : Int} {q : Path} : inP p (p :: q) = true := inP_iff.mpr ⟨q, rfl⟩
theorem inP_ne {p x : Int} {q : Path} (h : x ≠ p) : inP p (x :: q) = false := by
  rw [← Bool.not_eq_true, inP_iff]
  rintro ⟨r, e⟩
  cases e
  exact h rfl
theorem flat_filter {α β : Type} {G : α → List β} (c : α → Bool) : ∀ {L : List α}, (∀ x ∈ L, c x = false → G x = []) → L.flatMap G = (L.filter c).flatMap G
  | [], _ => rfl
  | x :: L, h => by
    rw [List.flatMap_cons, List.filter_cons, flat_filter c fun y hy => h y (List.mem_cons_of_mem _ hy)]
    cases hc : c x with
    | true => simp
    | false => rw [h x List.mem_cons_self hc]; simp
theorem flat_congr {α β : Type} {F G : α → List β} : ∀ {L : List α}, (∀ x ∈ L, F x = G x) → L.flatMap F = L.flatMap G
  | [], _ => rfl
  | x :: L, h => by
    rw [List.flatMap_cons, List.flatMap_cons, h x List.mem_cons_self, flat_congr fun y hy => h y (List.mem_cons_of_mem _ hy)]
section
variable {A P : Th} {p : Int} {m : Stand} {f : List Int}
theorem Part.subs (h : Part A p P) (q : Path) : A.sub (p :: q) = P.sub q := sub_append A [p] q h.sub
theorem Part.under (h : Part A p P) : A.paths.filter (inP p) = P.paths.map (p :: ·) := by
  have := paths_under 3 A h.g.ok [p] h.sub h.a
  have e : inP p = fun o => decide (List.take 1 o = [p]) := rfl
  rw [e]
  simpa using this
theorem Part.mem (h : Part A p P) {q : Path} : p :: q ∈ A.paths ↔ q ∈ P.paths := by
  have e : p :: q ∈ A.paths.filter (inP p) ↔ p :: q ∈ P.paths.map (p :: ·) := by rw [h.under]
  rw [List.mem_filter, inP_cons] at e
  simpa using e
theorem Part.good (h : Part A p P) : GoodArm P := by
  refine ⟨h.a, sub_ok 3 A h.g.ok [p] h.sub, ?_⟩
  have e := congrArg List.length h.under
  rw [List.length_map] at e
  have := List.length_filter_le (inP p) A.paths
  have := h.g.few
  omega
theorem Part.st (h : Part A p P) (gs : GoodSt A m) : GoodSt P (inSt A m p P) := map_good fun q hq => by
  obtain ⟨l, r, sl, hh, hs, e1, e2, e3⟩ := bd_ok h.g gs (h.mem.mpr hq)
  rw [h.subs] at e1
  exact ⟨l, r, sl, hh, hs, e1, e2, e3⟩
theorem Part.bd (h : Part A p P) {q : Path} (hq : q ∈ P.paths) : bdOf P (inSt A m p P) q = bdOf A m (p :: q) := bd_map h.good hq
theorem Part.load (h : Part A p P) {q : Path} {u : Th} (e : P.sub q = some u) : loadT (bdOf A m) (p :: q) u = loadT (bdOf P (inSt A m p P)) q u := by
  have e1 := load_shift (bdOf A m) [p] u q
  rw [List.singleton_append] at e1
  rw [e1]
  exact load_congr h.good.ok (fun x hx => by rw [h.bd hx]; rfl) 3 u q (sub_ok 3 P h.good.ok q e) e
theorem sub_stepP {t : Th} {q : Path} {l r s h hs} (ok : Ok 3 t) (e : t.sub q = some (.arm l r s h hs)) {x : Int × Th} (hx : x ∈ hs) : t.sub (q ++ [x.1]) = some x.2 := by
  rw [sub_append t q [x.1] e]
  have ok2 := sub_ok 3 t ok q e
  simp only [Th.sub, look_mem (rise_nodup ok2.2.2.2.2.1) (show (x.1, x.2) ∈ hs from hx), Option.bind_some]
theorem Part.tilt (h : Part A p P) {q : Path} (hq : q ∈ P.paths) : TL (bdOf A m) A (p :: q) = TL (bdOf P (inSt A m p P)) P q := by
  unfold TL
  rw [h.subs]
  obtain ⟨l, r, s, hh, hs, e, ok⟩ := sub_paths 3 P h.good.ok q hq
  rw [e]
  simp only [tiltT]
  rw [h.bd hq]
  congr 2
  refine List.map_congr_left fun x hx => ?_
  have e2 := sub_stepP h.good.ok e hx
  rw [← h.load e2]
  rfl
theorem Part.ld (h : Part A p P) {q : Path} (hq : q ∈ P.paths) : LD (bdOf A m) A (p :: q) = LD (bdOf P (inSt A m p P)) P q := by
  unfold LD
  rw [h.subs]
  obtain ⟨l, r, s, hh, hs, e, ok⟩ := sub_paths 3 P h.good.ok q hq
  rw [e]
  exact h.load e
theorem Part.wd (h : Part A p P) {q : Path} (hq : q ∈ P.paths) : wdQ A m (p :: q) = wdQ P (inSt A m p P) q := by
  unfold wdQ WD
  rw [h.subs]
  obtain ⟨l, r, s, hh, hs, e, ok⟩ := sub_paths 3 P h.good.ok q hq
  rw [e]
  simp only [h.tilt hq]
theorem Part.k (h : Part A p P) {q : Path} (hq : q ∈ P.paths) : kQ A m (p :: q) = kQ P (inSt A m p P) q := by
  unfold kQ
  rw [h.wd hq]
theorem Part.lim (h : Part A p P) (q : Path) : limQ A (p :: q) = limQ P q := by
  unfold limQ
  rw [h.subs]
theorem Part.stay (h : Part A p P) {q : Path} (hq : q ∈ P.paths) : stQ A m (p :: q) = stQ P (inSt A m p P) q := by
  unfold stQ
  rw [h.lim, h.k hq, h.bd hq]
theorem Part.off (h : Part A p P) {q : Path} (hq : q ∈ P.paths) : offQ A m (p :: q) = offQ P (inSt A m p P) q := by
  unfold offQ
  rw [h.lim, h.k hq, h.bd hq]
theorem Part.bel (h : Part A p P) {q : Path} (hq : q ∈ P.paths) : belQ A m (p :: q) = p :: belQ P (inSt A m p P) q := by
  unfold belQ
  rw [h.lim, h.wd hq]
  rfl
theorem Part.flat {β : Type} (h : Part A p P) {G : Path → List β} (hG : ∀ q ∈ A.paths, inP p q = false → G q = []) : A.paths.flatMap G = P.paths.flatMap fun q => G (p :: q) := by
  rw [flat_filter (inP p) hG, h.under, List.flatMap_map]
theorem Part.come (h : Part A p P) {q : Path} (hq : q ∈ P.paths) : comeQ A m f (p :: q) = comeQ P (inSt A m p P) (comeQ A m f [p]) q := by
  by_cases q0 : q = []
  · subst q0
    unfold comeQ
    simp
  · have e1 : comeQ A m f (p :: q) = A.paths.flatMap fun r => if belQ A m r = p :: q then offQ A m r else [] := by
      unfold comeQ
      rw [if_neg (by simp)]
    have e2 : comeQ P (inSt A m p P) (comeQ A m f [p]) q = P.paths.flatMap fun r => if belQ P (inSt A m p P) r = q then offQ P (inSt A m p P) r else [] := by
      conv => lhs; unfold comeQ
      rw [if_neg q0]
    rw [e1, e2, h.flat fun r hr hn => ?_]
    · refine flat_congr fun r hr => ?_
      rw [h.bel hr, h.off hr]
      simp
    · rw [if_neg]
      intro e
      cases r with
      | nil =>
        unfold belQ at e
        simp at e
        exact q0 e.2
      | cons x r =>
        unfold belQ at e
        simp at e
        rw [e.1, inP_cons] at hn
        cases hn
theorem Part.fin (h : Part A p P) {q : Path} (hq : q ∈ P.paths) : finQ A m f (p :: q) = finQ P (inSt A m p P) (comeQ A m f [p]) q := by
  unfold finQ
  rw [h.lim, h.come hq, h.stay hq]
theorem bd_newm {t : Th} {s : Stand} (g : GoodArm t) {q : Path} (hq : q ∈ t.paths) : bdOf t (newS t s f) q = sortB (finQ t s f q).1 := bd_map g hq
theorem Part.new (h : Part A p P) : inSt A (newS A m f) p P = newS P (inSt A m p P) (comeQ A m f [p]) := by
  unfold inSt
  conv => rhs; unfold newS
  refine List.map_congr_left fun q hq => ?_
  rw [bd_newm h.g (h.mem.mpr hq), h.fin hq]
  rfl
end

section
variable {A u : Th} {p : Int} {m i : Stand} {f : List Int}
structure Mate (A u : Th) (p : Int) : Prop where
  g : GoodArm A
  g' : GoodArm (putU u [p] A)
  here : ∃ P, A.sub [p] = some P
theorem Mate.top (h : Mate A u p) : ∃ l r s hh hs, A = .arm l r s hh hs ∧ putU u [p] A = .arm l r s hh (hs.map fun x => if x.1 = p then (x.1, u) else x) := by
  cases A with
  | w n => exact absurd h.g.a (by simp [Th.isA])
  | arm l r s hh hs => exact ⟨l, r, s, hh, hs, rfl, rfl⟩
theorem look_mate {u : Th} {p x : Int} (hx : x ≠ p) : ∀ hs : List (Int × Th), look x (hs.map fun y => if y.1 = p then (y.1, u) else y) = look x hs
  | [] => rfl
  | (q, t) :: r => by
    simp only [List.map_cons, look]
    by_cases e : q = p
    · subst e
      have : ¬ q = x := fun z => hx z.symm
      simp only [if_true, this, if_false]
      exact look_mate hx r
    · simp only [e, if_false]
      rw [look_mate hx r]
theorem look_here {u : Th} {p : Int} : ∀ {hs : List (Int × Th)} {P : Th}, look p hs = some P → look p (hs.map fun y => if y.1 = p then (y.1, u) else y) = some u
  | (q, t) :: r, P, h => by
    simp only [look] at h
    simp only [List.map_cons, look]
    by_cases e : q = p
    · subst e; simp
    · simp only [e, if_false] at h ⊢
      exact look_here h
theorem Mate.subU (h : Mate A u p) : (putU u [p] A).sub [p] = some u := by
  obtain ⟨P, hP⟩ := h.here
  obtain ⟨l, r, s, hh, hs, rfl, e⟩ := h.top
  rw [e]
  simp only [Th.sub] at hP ⊢
  obtain ⟨v, e1, e2⟩ := Option.bind_eq_some_iff.mp hP
  rw [look_here e1]
  rfl
theorem Mate.subs (h : Mate A u p) {q : Path} (h0 : q ≠ []) (ho : inP p q = false) : (putU u [p] A).sub q = A.sub q := by
  obtain ⟨l, r, s, hh, hs, rfl, e⟩ := h.top
  rw [e]
  cases q with
  | nil => exact absurd rfl h0
  | cons x q =>
    have hx : x ≠ p := fun z => by rw [z, inP_cons] at ho; cases ho
    simp only [Th.sub]
    rw [look_mate hx]
theorem Mate.paths (h : Mate A u p) : (putU u [p] A).paths.filter (fun q => !inP p q) = A.paths.filter fun q => !inP p q := by
  obtain ⟨l, r, s, hh, hs, rfl, e⟩ := h.top
  rw [e, paths_arm, paths_arm]
  simp only [List.filter_cons, inP_nil, Bool.not_false, if_true]
  congr 1
  clear h e
  induction hs with
  | nil => rfl
  | cons x hs ih =>
    simp only [List.map_cons, List.flatMap_cons, List.filter_append, ih]
    congr 1
    by_cases hx : x.1 = p
    · rw [if_pos hx]
      have : ∀ t : Th, (t.paths.map (x.1 :: ·)).filter (fun q => !inP p q) = [] := fun t => by
        rw [List.filter_eq_nil_iff]
        intro q hq
        obtain ⟨q', _, rfl⟩ := List.mem_map.mp hq
        rw [hx, inP_cons]
        simp
      rw [this, this]
    · rw [if_neg hx]
theorem Mate.mem (h : Mate A u p) {q : Path} (ho : inP p q = false) : q ∈ (putU u [p] A).paths ↔ q ∈ A.paths := by
  have e : q ∈ (putU u [p] A).paths.filter (fun q => !inP p q) ↔ q ∈ A.paths.filter fun q => !inP p q := by rw [h.paths]
  rw [List.mem_filter, List.mem_filter, ho] at e
  simpa using e
structure Same (A u : Th) (p : Int) (m i : Stand) : Prop where
  bd : ∀ q ∈ A.paths, inP p q = false → bdOf (putU u [p] A) i q = bdOf A m q
  ld : ∀ P, A.sub [p] = some P → loadT (bdOf A m) [p] P = loadT (bdOf (putU u [p] A) i) [p] u
theorem Same.load (h : Mate A u p) (e : Same A u p m i) {q : Path} (h0 : q ≠ []) (ho : inP p q = false) {v : Th} (hv : A.sub q = some v) : loadT (bdOf (putU u [p] A) i) q v = loadT (bdOf A m) q v := by
  have k1 := load_shift (bdOf (putU u [p] A) i) q v []
  have k2 := load_shift (bdOf A m) q v []
  rw [List.append_nil] at k1 k2
  rw [k1, k2]
  have okv := sub_ok 3 A h.g.ok q hv
  refine load_congr okv (fun x hx => ?_) 3 v [] okv rfl
  have hm : q ++ x ∈ A.paths := by
    obtain ⟨l, r, s, hh, hs, e1, _⟩ := sub_paths 3 v okv x hx
    exact sub_mem 3 A h.g.ok _ (by rw [sub_append A q x hv, e1]) rfl
  have ho' : inP p (q ++ x) = false := by
    cases q with
    | nil => exact absurd rfl h0
    | cons y q =>
      have hy : y ≠ p := fun z => by rw [z, inP_cons] at ho; cases ho
      exact inP_ne hy
  show ((bdOf (putU u [p] A) i (q ++ x)).map (·.2)).sum = ((bdOf A m (q ++ x)).map (·.2)).sum
  rw [e.bd _ hm ho']
theorem Same.subL (h : Mate A u p) (e : Same A u p m i) {l r s hh hs} (eA : A = .arm l r s hh hs) (g : Int → Int → Int) : ((hs.map fun x => if x.1 = p then (x.1, u) else x).map fun x => g x.1 (loadT (bdOf (putU u [p] A) i) [x.1] x.2)) = hs.map fun x => g x.1 (loadT (bdOf A m) [x.1] x.2) := by
  rw [List.map_map]
  refine List.map_congr_left fun x hx => ?_
  have hs1 : A.sub [x.1] = some x.2 := by
    have := sub_stepP (q := []) h.g.ok (by rw [eA]; rfl) hx
    simpa using this
  simp only [Function.comp]
  by_cases hp : x.1 = p
  · rw [if_pos hp]
    simp only
    rw [hp, e.ld x.2 (by rw [← hp]; exact hs1)]
  · rw [if_neg hp, e.load h (by simp) (inP_ne hp) hs1]
theorem Same.tilt (h : Mate A u p) (e : Same A u p m i) {q : Path} (hq : q ∈ A.paths) (ho : inP p q = false) : TL (bdOf (putU u [p] A) i) (putU u [p] A) q = TL (bdOf A m) A q := by
  unfold TL
  by_cases h0 : q = []
  · subst h0
    obtain ⟨l, r, s, hh, hs, eA, eU⟩ := h.top
    have k := e.subL h eA (fun a b => a * b)
    have b0 := e.bd [] hq rfl
    simp only [Th.sub]
    rw [eU] at k b0 ⊢
    rw [eA] at k b0 ⊢
    simp only [tiltT, List.nil_append]
    rw [k, b0]
  · rw [h.subs h0 ho]
    obtain ⟨l, r, s, hh, hs, e1, ok⟩ := sub_paths 3 A h.g.ok q hq
    rw [e1]
    simp only [tiltT]
    rw [e.bd q hq ho]
    congr 2
    refine List.map_congr_left fun x hx => ?_
    rw [e.load h (by simp) ?_ (sub_stepP h.g.ok e1 hx)]
    cases q with
    | nil => exact absurd rfl h0
    | cons y q =>
      have hy : y ≠ p := fun z => by rw [z, inP_cons] at ho; cases ho
      exact inP_ne hy
theorem Mate.lim (h : Mate A u p) {q : Path} (ho : inP p q = false) : limQ (putU u [p] A) q = limQ A q := by
  unfold limQ
  by_cases h0 : q = []
  · subst h0
    obtain ⟨l, r, s, hh, hs, rfl, eU⟩ := h.top
    rw [eU]
    rfl
  · rw [h.subs h0 ho]
theorem Same.wd (h : Mate A u p) (e : Same A u p m i) {q : Path} (hq : q ∈ A.paths) (ho : inP p q = false) : wdQ (putU u [p] A) i q = wdQ A m q := by
  unfold wdQ WD
  rw [e.tilt h hq ho]
  by_cases h0 : q = []
  · subst h0
    obtain ⟨l, r, s, hh, hs, eA, eU⟩ := h.top
    simp only [Th.sub]
    rw [eU]
    rw [eA]
  · rw [h.subs h0 ho]
theorem Same.k (h : Mate A u p) (e : Same A u p m i) {q : Path} (hq : q ∈ A.paths) (ho : inP p q = false) : kQ (putU u [p] A) i q = kQ A m q := by
  unfold kQ
  rw [e.wd h hq ho]
theorem Same.off (h : Mate A u p) (e : Same A u p m i) {q : Path} (hq : q ∈ A.paths) (ho : inP p q = false) : offQ (putU u [p] A) i q = offQ A m q := by
  unfold offQ
  rw [h.lim ho, e.k h hq ho, e.bd q hq ho]
theorem Same.stay (h : Mate A u p) (e : Same A u p m i) {q : Path} (hq : q ∈ A.paths) (ho : inP p q = false) : stQ (putU u [p] A) i q = stQ A m q := by
  unfold stQ
  rw [h.lim ho, e.k h hq ho, e.bd q hq ho]
theorem Same.bel (h : Mate A u p) (e : Same A u p m i) {q : Path} (hq : q ∈ A.paths) (ho : inP p q = false) : belQ (putU u [p] A) i q = belQ A m q := by
  unfold belQ
  rw [h.lim ho, e.wd h hq ho]
theorem bel_in {t : Th} {s : Stand} {q : Path} (h : inP p q = true) : inP p (belQ t s q) = true := by
  obtain ⟨r, rfl⟩ := inP_iff.mp h
  unfold belQ
  exact inP_cons
theorem Same.come (h : Mate A u p) (e : Same A u p m i) {q : Path} (ho : inP p q = false) : comeQ (putU u [p] A) i f q = comeQ A m f q := by
  unfold comeQ
  by_cases h0 : q = []
  · rw [if_pos h0, if_pos h0]
  · rw [if_neg h0, if_neg h0]
    have no : ∀ (t : Th) (s : Stand), ∀ r ∈ t.paths, (!inP p r) = false → (if belQ t s r = q then offQ t s r else []) = [] := fun t s r _ hr => by
      rw [if_neg]
      intro z
      have := bel_in (t := t) (s := s) (show inP p r = true by simpa using hr)
      rw [z, ho] at this
      cases this
    rw [flat_filter (fun q => !inP p q) (no _ _), flat_filter (fun q => !inP p q) (no A m), h.paths]
    refine flat_congr fun r hr => ?_
    obtain ⟨hr1, hr2⟩ := List.mem_filter.mp hr
    have hr3 : inP p r = false := by simpa using hr2
    rw [e.bel h hr1 hr3, e.off h hr1 hr3]
theorem Same.fin (h : Mate A u p) (e : Same A u p m i) {q : Path} (hq : q ∈ A.paths) (ho : inP p q = false) : finQ (putU u [p] A) i f q = finQ A m f q := by
  unfold finQ
  rw [h.lim ho, e.come h ho, e.stay h hq ho]
theorem Same.new (h : Mate A u p) (e : Same A u p m i) {q : Path} (hq : q ∈ A.paths) (ho : inP p q = false) : bdOf (putU u [p] A) (newS (putU u [p] A) i f) q = bdOf A (newS A m f) q := by
  rw [bd_newm h.g' ((h.mem ho).mpr hq), bd_newm h.g hq, e.fin h hq ho]
end
end Dn


namespace Dn
open PySem
theorem seq_then {x y : DS} {cs : CS} {σ σ' : Env} {st st' : Store} {G : Res (Flow × Env) → Prop} (h : x cs σ st = .ok (.nx, σ') st') (k : G (y cs σ' st')) : G (D.seq x y cs σ st) := by
  rw [s_seq', h, Res.bind_ok, thn_nx]
  exact k


section
variable {A Q : Th} {p : Int} {s sQ : Stand}
theorem Mate.part (h : Mate A Q p) (a : Q.isA = true) : Part (putU Q [p] A) p Q := ⟨h.g', h.subU, a⟩
end

theorem Mate.none {A : Th} {w p : Int} (h : Mate A (.w w) p) : ∀ q ∈ (putU (.w w) [p] A).paths, inP p q = false := by
  intro q hq
  rw [← Bool.not_eq_true]
  intro z
  obtain ⟨r, rfl⟩ := inP_iff.mp z
  obtain ⟨l, r', s, hh, hs, e1, e2⟩ := sub_paths 3 _ h.g'.ok _ hq
  rw [show p :: r = [p] ++ r from rfl, sub_append _ [p] r h.subU] at e1
  cases r <;> simp [Th.sub] at e1
theorem Mate.only {A : Th} {w p : Int} (h : Mate A (.w w) p) : (putU (.w w) [p] A).paths = A.paths.filter fun q => !inP p q := by
  rw [← h.paths, List.filter_eq_self.mpr]
  intro q hq
  rw [h.none q hq]
  rfl
end Dn

namespace Dn
open PySem
def lo06 : PV := .tup [.int 1, .int 1, .int 0, .int 1, .tup []]
def mo06 : PV := .tup [.int 1, .int 2, .int 0, .int 2, .tup [.tup [.int (-1), .int 4], .tup [.int 2, lo06]]]
theorem errors06 (st : Store) : callN tbl 29 i__law_errors_right [] st = .ok (.bl true) st := by kernel_rfl
theorem arms06 (st : Store) : callN tbl 29 i__law_arms_right [mo06, lo06] st = .ok (.bl true) st := by kernel_rfl
theorem beads06 (st : Store) (a b : Int) (h1 : -1 ≤ a ∧ a ≤ 1) (h2 : 1 ≤ b ∧ b ≤ 3) : callN tbl 29 i__law_beads_right [mo06, .int a, .int b] st = .ok (.bl true) st := by
  have c1 : a = -1 ∨ a = 0 ∨ a = 1 := by omega
  have c2 : b = 1 ∨ b = 2 ∨ b = 3 := by omega
  rcases c1 with rfl | rfl | rfl <;> rcases c2 with rfl | rfl | rfl <;> kernel_rfl
theorem x_law (n) (xs : List Int) (hx : xs.length ≤ 63) (hn : n = 30) (st) : callN tbl n i_law [.scr xs] st = .ok (.bl true) st := by
  subst hn
  refine fn_ret t_law rfl (by simp) ?_ (by simp)
  obtain ⟨K, hK⟩ : ∃ K : Int, K = if (if (3 : Int) < (xs.length : Int) then (3 : Int) else (xs.length : Int)) > 1 then (if (3 : Int) < (xs.length : Int) then (3 : Int) else (xs.length : Int)) else 1 := ⟨_, rfl⟩
  have kb : 1 ≤ K ∧ K ≤ 3 := by
    rw [hK]
    split <;> split at * <;> omega
  have ng : O.neg (.int 1) = some (.int (-1)) := rfl
  have er := errors06
  have ar := arms06
  have bd := beads06
  obtain ⟨MO, hMO⟩ : ∃ MO, MO = mo06 := ⟨_, rfl⟩
  obtain ⟨LO, hLO⟩ : ∃ LO, LO = lo06 := ⟨_, rfl⟩
  rw [← hMO] at ar bd
  rw [← hLO] at ar
  rw [b_law]
  have sz : (start 6 [.scr xs] : Env) = [some (.scr xs), none, none, none, none, none] := rfl
  rw [sz]
  refine seq_then (G := fun r => fin r = some (.ret (.bl true))) (σ' := [some (.scr xs), some LO, none, none, none, none]) (st' := []) (by simp [hLO, lo06]) ?_
  refine seq_then (G := fun r => fin r = some (.ret (.bl true))) (σ' := [some (.scr xs), some LO, some MO, none, none, none]) (st' := []) (by simp [ng, hMO, hLO, mo06]) ?_
  refine seq_then (G := fun r => fin r = some (.ret (.bl true))) (σ' := [some (.scr xs), some LO, some MO, none, none, none]) (st' := []) (by simp [er, ar]) ?_
  refine for_then (G := fun r => fin (Res.bind r _) = _) (fun i : Nat => PV.int i) (List.range K.toNat) none (st1 := []) (fun M σ _ => ∃ x3 x4 x5 : Option PV, σ = [some (.scr xs), some LO, some MO, x3, x4, x5]) (range1_ok (by simp [O.len, O.min2, O.max2]; exact hK.symm) (by omega) (by omega)) (fun _ _ _ _ => rfl) ⟨none, none, none, rfl⟩ ?_ ?_
  · rintro i M σ st ⟨x3, x4, x5, rfl⟩
    obtain ⟨v, ce⟩ := x_law_cell_at 29 xs i (by omega) st
    obtain ⟨pa, pb, pe⟩ := x_law_pen 29 v (by omega) st
    have pen0 : Pen (st ++ [.lst [.int pa, .int pb, .int 0]]) st.length := ⟨pa, pb, 0, by simp⟩
    refine (runs_intro fun Q hQ => ?_ : Runs _ _)
    simp [ce, pe]
    refine for_then (G := fun r => Runs r Q) (fun i : Nat => PV.int i) (List.range (4 : Int).toNat) none (st1 := st ++ [.lst [.int pa, .int pb, .int 0]]) (fun M' σ st' => Pen st' st.length ∧ ∃ x5 : Option PV, σ = [some (.scr xs), some LO, some MO, some (.int i), some (.ref st.length), x5]) (range1_ok (by simp) (by omega) (by omega)) (fun _ _ _ _ => rfl) ⟨pen0, x5, rfl⟩ ?_ ?_
    · rintro lap M' σ st6 ⟨pen, x5, rfl⟩
      obtain ⟨k1, st7, e7, kb1, s7⟩ := x_law_draw 29 (m := 3) (by omega) (by omega) (by omega) pen
      obtain ⟨k2, st8, e8, kb2, s8⟩ := x_law_draw 29 (m := 3) (by omega) (by omega) (by omega) s7.pen
      have b := fun st => bd st (k1 - 1) (1 + k2) (by omega) (by omega)
      refine (runs_intro fun Q hQ => ?_ : Runs _ _)
      simp [e7, e8, sub_ii, add_ii, b]
      exact runs_nx (hQ _ _ ⟨s8.pen, _, rfl⟩)
    · rintro σ st6 ⟨pen, x5, rfl⟩
      exact runs_nx (hQ _ _ ⟨_, _, _, rfl⟩)
  · rintro σ st ⟨x3, x4, x5, rfl⟩
    simp

end Dn

namespace Dn
open PySem
theorem plain_law (xs : List Int) (h : xs.length ≤ 63) : ∃ st, callN tbl 30 i_law [.scr xs] [] = .ok (.bl true) st := ⟨_, x_law 30 xs h (by omega) []⟩

end Dn

namespace Dn
open L2
def faOf (K : PySem.W.Frag) (i : Nat) : PySem.Addr := match fn[i]? with
  | some d => He.fAd K d.at_
  | none => 0
def clOf (K : PySem.W.Frag) (i : Nat) : PySem.Addr := match cnm i with
  | some x => He.ga K x
  | none => (match enm i with
    | some x => He.ga K x
    | none => (match enm2 i with
      | some x => He.ga K x
      | none => 0))
section
variable {K : PySem.W.Frag}
theorem sc_is_whole : L2.FnScope n_is_whole [("thing" : PySem.Str)] (L2.defScope (top 24)) := ⟨rfl, rfl, rfl, by decide +kernel, rfl, by decide +kernel, by decide +kernel⟩
theorem lq_is_whole : lamB n_is_whole = true → ("is_whole" : PySem.Str) ∈ lamsL := fun h => absurd h (by decide +kernel)
theorem ok_is_whole (c : He.SaysD fas fn K) : DefOk Γ K (faOf K) 0 ⟨1, 1, true, b_is_whole⟩ := by
  obtain ⟨fd, F⟩ := c.def_ 0 (d := dd_is_whole) rfl
  refine ⟨⟨_, _, _, _, _, _, _, fd, n_is_whole, [("thing" : PySem.Str)], F, lq_is_whole, sc_is_whole, rfl, rfl, s_is_whole, fun j hj => ⟨[], [], L2.FunD.bindsN F fun _ _ _ _ _ _ us hl => match us, hl with | [_], _ => rfl, .nil, fun κ G ρ H _ => ?_⟩, fun k hk => absurd (show k ∈ ([] : List KwS) from hk) List.not_mem_nil⟩⟩
  · show RVs κ G ρ H (([] : List PV).drop j) []
    simp [RVs]
theorem sc_is_within : L2.FnScope n_is_within [("thing" : PySem.Str), ("least" : PySem.Str), ("most" : PySem.Str)] (L2.defScope (top 25)) := ⟨rfl, rfl, rfl, by decide +kernel, rfl, by decide +kernel, by decide +kernel⟩
theorem lq_is_within : lamB n_is_within = true → ("is_within" : PySem.Str) ∈ lamsL := fun h => absurd h (by decide +kernel)
theorem ok_is_within (c : He.SaysD fas fn K) : DefOk Γ K (faOf K) 1 ⟨3, 3, true, b_is_within⟩ := by
  obtain ⟨fd, F⟩ := c.def_ 1 (d := dd_is_within) rfl
  refine ⟨⟨_, _, _, _, _, _, _, fd, n_is_within, [("thing" : PySem.Str), ("least" : PySem.Str), ("most" : PySem.Str)], F, lq_is_within, sc_is_within, rfl, rfl, s_is_within, fun j hj => ⟨[], [], L2.FunD.bindsN F fun _ _ _ _ _ _ us hl => match us, hl with | [_, _, _], _ => rfl, .nil, fun κ G ρ H _ => ?_⟩, fun k hk => absurd (show k ∈ ([] : List KwS) from hk) List.not_mem_nil⟩⟩
  · show RVs κ G ρ H (([] : List PV).drop j) []
    simp [RVs]
theorem sc_is_long : L2.FnScope n_is_long [("thing" : PySem.Str), ("least" : PySem.Str), ("most" : PySem.Str)] (L2.defScope (top 26)) := ⟨rfl, rfl, rfl, by decide +kernel, rfl, by decide +kernel, by decide +kernel⟩
theorem lq_is_long : lamB n_is_long = true → ("is_long" : PySem.Str) ∈ lamsL := fun h => absurd h (by decide +kernel)
theorem ok_is_long (c : He.SaysD fas fn K) : DefOk Γ K (faOf K) 2 ⟨3, 3, true, b_is_long⟩ := by
  obtain ⟨fd, F⟩ := c.def_ 2 (d := dd_is_long) rfl
  refine ⟨⟨_, _, _, _, _, _, _, fd, n_is_long, [("thing" : PySem.Str), ("least" : PySem.Str), ("most" : PySem.Str)], F, lq_is_long, sc_is_long, rfl, rfl, s_is_long, fun j hj => ⟨[], [], L2.FunD.bindsN F fun _ _ _ _ _ _ us hl => match us, hl with | [_, _, _], _ => rfl, .nil, fun κ G ρ H _ => ?_⟩, fun k hk => absurd (show k ∈ ([] : List KwS) from hk) List.not_mem_nil⟩⟩
  · show RVs κ G ρ H (([] : List PV).drop j) []
    simp [RVs]
theorem sc_rises : L2.FnScope n_rises [("row" : PySem.Str)] (L2.defScope (top 27)) := ⟨rfl, rfl, rfl, by decide +kernel, rfl, by decide +kernel, by decide +kernel⟩
theorem lq_rises : lamB n_rises = true → ("rises" : PySem.Str) ∈ lamsL := fun h => absurd h (by decide +kernel)
theorem ok_rises (c : He.SaysD fas fn K) : DefOk Γ K (faOf K) 3 ⟨1, 3, true, b_rises⟩ := by
  obtain ⟨fd, F⟩ := c.def_ 3 (d := dd_rises) rfl
  refine ⟨⟨_, _, _, _, _, _, _, fd, n_rises, [("row" : PySem.Str)], F, lq_rises, sc_rises, rfl, rfl, s_rises, fun j hj => ⟨[], [], L2.FunD.bindsN F fun _ _ _ _ _ _ us hl => match us, hl with | [_], _ => rfl, .nil, fun κ G ρ H _ => ?_⟩, fun k hk => absurd (show k ∈ ([] : List KwS) from hk) List.not_mem_nil⟩⟩
  · show RVs κ G ρ H (([] : List PV).drop j) []
    simp [RVs]
theorem sc_falls_not : L2.FnScope n_falls_not [("row" : PySem.Str)] (L2.defScope (top 28)) := ⟨rfl, rfl, rfl, by decide +kernel, rfl, by decide +kernel, by decide +kernel⟩
theorem lq_falls_not : lamB n_falls_not = true → ("falls_not" : PySem.Str) ∈ lamsL := fun h => absurd h (by decide +kernel)
theorem ok_falls_not (c : He.SaysD fas fn K) : DefOk Γ K (faOf K) 4 ⟨1, 3, true, b_falls_not⟩ := by
  obtain ⟨fd, F⟩ := c.def_ 4 (d := dd_falls_not) rfl
  refine ⟨⟨_, _, _, _, _, _, _, fd, n_falls_not, [("row" : PySem.Str)], F, lq_falls_not, sc_falls_not, rfl, rfl, s_falls_not, fun j hj => ⟨[], [], L2.FunD.bindsN F fun _ _ _ _ _ _ us hl => match us, hl with | [_], _ => rfl, .nil, fun κ G ρ H _ => ?_⟩, fun k hk => absurd (show k ∈ ([] : List KwS) from hk) List.not_mem_nil⟩⟩
  · show RVs κ G ρ H (([] : List PV).drop j) []
    simp [RVs]
theorem sc_is_arm_by : L2.FnScope n_is_arm_by [("thing" : PySem.Str), ("deep" : PySem.Str)] (L2.defScope (top 29)) := ⟨rfl, rfl, rfl, by decide +kernel, rfl, by decide +kernel, by decide +kernel⟩
theorem lq_is_arm_by : lamB n_is_arm_by = true → ("is_arm_by" : PySem.Str) ∈ lamsL := fun h => absurd h (by decide +kernel)
theorem ok_is_arm_by (c : He.SaysD fas fn K) : DefOk Γ K (faOf K) 5 ⟨2, 10, true, b_is_arm_by⟩ := by
  obtain ⟨fd, F⟩ := c.def_ 5 (d := dd_is_arm_by) rfl
  refine ⟨⟨_, _, _, _, _, _, _, fd, n_is_arm_by, [("thing" : PySem.Str), ("deep" : PySem.Str)], F, lq_is_arm_by, sc_is_arm_by, rfl, rfl, s_is_arm_by, fun j hj => ⟨[], [], L2.FunD.bindsN F fun _ _ _ _ _ _ us hl => match us, hl with | [_, _], _ => rfl, .nil, fun κ G ρ H _ => ?_⟩, fun k hk => absurd (show k ∈ ([] : List KwS) from hk) List.not_mem_nil⟩⟩
  · show RVs κ G ρ H (([] : List PV).drop j) []
    simp [RVs]
theorem sc_is_weight : L2.FnScope n_is_weight [("thing" : PySem.Str)] (L2.defScope (top 30)) := ⟨rfl, rfl, rfl, by decide +kernel, rfl, by decide +kernel, by decide +kernel⟩
theorem lq_is_weight : lamB n_is_weight = true → ("is_weight" : PySem.Str) ∈ lamsL := fun h => absurd h (by decide +kernel)
theorem ok_is_weight (c : He.SaysD fas fn K) : DefOk Γ K (faOf K) 6 ⟨1, 1, true, b_is_weight⟩ := by
  obtain ⟨fd, F⟩ := c.def_ 6 (d := dd_is_weight) rfl
  refine ⟨⟨_, _, _, _, _, _, _, fd, n_is_weight, [("thing" : PySem.Str)], F, lq_is_weight, sc_is_weight, rfl, rfl, s_is_weight, fun j hj => ⟨[], [], L2.FunD.bindsN F fun _ _ _ _ _ _ us hl => match us, hl with | [_], _ => rfl, .nil, fun κ G ρ H _ => ?_⟩, fun k hk => absurd (show k ∈ ([] : List KwS) from hk) List.not_mem_nil⟩⟩
  · show RVs κ G ρ H (([] : List PV).drop j) []
    simp [RVs]
theorem sc_arms_in : L2.FnScope n_arms_in [("arm" : PySem.Str)] (L2.defScope (top 31)) := ⟨rfl, rfl, rfl, by decide +kernel, rfl, by decide +kernel, by decide +kernel⟩
theorem lq_arms_in : lamB n_arms_in = true → ("arms_in" : PySem.Str) ∈ lamsL := fun h => absurd h (by decide +kernel)
theorem ok_arms_in (c : He.SaysD fas fn K) : DefOk Γ K (faOf K) 7 ⟨1, 3, true, b_arms_in⟩ := by
  obtain ⟨fd, F⟩ := c.def_ 7 (d := dd_arms_in) rfl
  refine ⟨⟨_, _, _, _, _, _, _, fd, n_arms_in, [("arm" : PySem.Str)], F, lq_arms_in, sc_arms_in, rfl, rfl, s_arms_in, fun j hj => ⟨[], [], L2.FunD.bindsN F fun _ _ _ _ _ _ us hl => match us, hl with | [_], _ => rfl, .nil, fun κ G ρ H _ => ?_⟩, fun k hk => absurd (show k ∈ ([] : List KwS) from hk) List.not_mem_nil⟩⟩
  · show RVs κ G ρ H (([] : List PV).drop j) []
    simp [RVs]
theorem sc_deep_of : L2.FnScope n_deep_of [("arm" : PySem.Str)] (L2.defScope (top 32)) := ⟨rfl, rfl, rfl, by decide +kernel, rfl, by decide +kernel, by decide +kernel⟩
theorem lq_deep_of : lamB n_deep_of = true → ("deep_of" : PySem.Str) ∈ lamsL := fun h => absurd h (by decide +kernel)
theorem ok_deep_of (c : He.SaysD fas fn K) : DefOk Γ K (faOf K) 8 ⟨1, 3, true, b_deep_of⟩ := by
  obtain ⟨fd, F⟩ := c.def_ 8 (d := dd_deep_of) rfl
  refine ⟨⟨_, _, _, _, _, _, _, fd, n_deep_of, [("arm" : PySem.Str)], F, lq_deep_of, sc_deep_of, rfl, rfl, s_deep_of, fun j hj => ⟨[], [], L2.FunD.bindsN F fun _ _ _ _ _ _ us hl => match us, hl with | [_], _ => rfl, .nil, fun κ G ρ H _ => ?_⟩, fun k hk => absurd (show k ∈ ([] : List KwS) from hk) List.not_mem_nil⟩⟩
  · show RVs κ G ρ H (([] : List PV).drop j) []
    simp [RVs]
theorem sc_is_arm : L2.FnScope n_is_arm [("thing" : PySem.Str)] (L2.defScope (top 33)) := ⟨rfl, rfl, rfl, by decide +kernel, rfl, by decide +kernel, by decide +kernel⟩
theorem lq_is_arm : lamB n_is_arm = true → ("is_arm" : PySem.Str) ∈ lamsL := fun h => absurd h (by decide +kernel)
theorem ok_is_arm (c : He.SaysD fas fn K) : DefOk Γ K (faOf K) 9 ⟨1, 1, true, b_is_arm⟩ := by
  obtain ⟨fd, F⟩ := c.def_ 9 (d := dd_is_arm) rfl
  refine ⟨⟨_, _, _, _, _, _, _, fd, n_is_arm, [("thing" : PySem.Str)], F, lq_is_arm, sc_is_arm, rfl, rfl, s_is_arm, fun j hj => ⟨[], [], L2.FunD.bindsN F fun _ _ _ _ _ _ us hl => match us, hl with | [_], _ => rfl, .nil, fun κ G ρ H _ => ?_⟩, fun k hk => ?_⟩⟩
  · show RVs κ G ρ H (([] : List PV).drop j) []
    simp [RVs]
  · have hk : k ∈ ([⟨0, [(⟨#[116, 104, 105, 110, 103]⟩ : PySem.Str)], [0]⟩] : List KwS) := hk
    simp only [List.mem_cons, List.not_mem_nil, or_false] at hk
    rcases hk with rfl
    · exact ⟨_, [], L2.FunD.kbN F 0 [(⟨#[116, 104, 105, 110, 103]⟩ : PySem.Str)] [0] fun _ _ _ _ _ _ us ws hu hw => match us, hu, ws, hw with | [], _, [_], _ => rfl, fun κ G ρ H _ => (show RVs κ G ρ H ([] : List PV) [] from RVs.nil)⟩
theorem sc_need_arm : L2.FnScope n_need_arm [("thing" : PySem.Str)] (L2.defScope (top 34)) := ⟨rfl, rfl, rfl, by decide +kernel, rfl, by decide +kernel, by decide +kernel⟩
theorem lq_need_arm : lamB n_need_arm = true → ("need_arm" : PySem.Str) ∈ lamsL := fun h => absurd h (by decide +kernel)
theorem ok_need_arm (c : He.SaysD fas fn K) : DefOk Γ K (faOf K) 10 ⟨1, 1, true, b_need_arm⟩ := by
  obtain ⟨fd, F⟩ := c.def_ 10 (d := dd_need_arm) rfl
  refine ⟨⟨_, _, _, _, _, _, _, fd, n_need_arm, [("thing" : PySem.Str)], F, lq_need_arm, sc_need_arm, rfl, rfl, s_need_arm, fun j hj => ⟨[], [], L2.FunD.bindsN F fun _ _ _ _ _ _ us hl => match us, hl with | [_], _ => rfl, .nil, fun κ G ρ H _ => ?_⟩, fun k hk => absurd (show k ∈ ([] : List KwS) from hk) List.not_mem_nil⟩⟩
  · show RVs κ G ρ H (([] : List PV).drop j) []
    simp [RVs]
theorem sc_paths_by : L2.FnScope n_paths_by [("arm" : PySem.Str)] (L2.defScope (top 35)) := ⟨rfl, rfl, rfl, by decide +kernel, rfl, by decide +kernel, by decide +kernel⟩
theorem lq_paths_by : lamB n_paths_by = true → ("paths_by" : PySem.Str) ∈ lamsL := fun h => absurd h (by decide +kernel)
theorem ok_paths_by (c : He.SaysD fas fn K) : DefOk Γ K (faOf K) 11 ⟨1, 5, true, b_paths_by⟩ := by
  obtain ⟨fd, F⟩ := c.def_ 11 (d := dd_paths_by) rfl
  refine ⟨⟨_, _, _, _, _, _, _, fd, n_paths_by, [("arm" : PySem.Str)], F, lq_paths_by, sc_paths_by, rfl, rfl, s_paths_by, fun j hj => ⟨[], [], L2.FunD.bindsN F fun _ _ _ _ _ _ us hl => match us, hl with | [_], _ => rfl, .nil, fun κ G ρ H _ => ?_⟩, fun k hk => absurd (show k ∈ ([] : List KwS) from hk) List.not_mem_nil⟩⟩
  · show RVs κ G ρ H (([] : List PV).drop j) []
    simp [RVs]
theorem sc_paths : L2.FnScope n_paths [("arm" : PySem.Str)] (L2.defScope (top 36)) := ⟨rfl, rfl, rfl, by decide +kernel, rfl, by decide +kernel, by decide +kernel⟩
theorem lq_paths : lamB n_paths = true → ("paths" : PySem.Str) ∈ lamsL := fun h => absurd h (by decide +kernel)
theorem ok_paths (c : He.SaysD fas fn K) : DefOk Γ K (faOf K) 12 ⟨1, 1, true, b_paths⟩ := by
  obtain ⟨fd, F⟩ := c.def_ 12 (d := dd_paths) rfl
  refine ⟨⟨_, _, _, _, _, _, _, fd, n_paths, [("arm" : PySem.Str)], F, lq_paths, sc_paths, rfl, rfl, s_paths, fun j hj => ⟨[], [], L2.FunD.bindsN F fun _ _ _ _ _ _ us hl => match us, hl with | [_], _ => rfl, .nil, fun κ G ρ H _ => ?_⟩, fun k hk => ?_⟩⟩
  · show RVs κ G ρ H (([] : List PV).drop j) []
    simp [RVs]
  · have hk : k ∈ ([⟨0, [(⟨#[97, 114, 109]⟩ : PySem.Str)], [0]⟩] : List KwS) := hk
    simp only [List.mem_cons, List.not_mem_nil, or_false] at hk
    rcases hk with rfl
    · exact ⟨_, [], L2.FunD.kbN F 0 [(⟨#[97, 114, 109]⟩ : PySem.Str)] [0] fun _ _ _ _ _ _ us ws hu hw => match us, hu, ws, hw with | [], _, [_], _ => rfl, fun κ G ρ H _ => (show RVs κ G ρ H ([] : List PV) [] from RVs.nil)⟩
theorem sc_is_path : L2.FnScope n_is_path [("arm" : PySem.Str), ("thing" : PySem.Str)] (L2.defScope (top 37)) := ⟨rfl, rfl, rfl, by decide +kernel, rfl, by decide +kernel, by decide +kernel⟩
theorem lq_is_path : lamB n_is_path = true → ("is_path" : PySem.Str) ∈ lamsL := fun h => absurd h (by decide +kernel)
theorem ok_is_path (c : He.SaysD fas fn K) : DefOk Γ K (faOf K) 13 ⟨2, 3, true, b_is_path⟩ := by
  obtain ⟨fd, F⟩ := c.def_ 13 (d := dd_is_path) rfl
  refine ⟨⟨_, _, _, _, _, _, _, fd, n_is_path, [("arm" : PySem.Str), ("thing" : PySem.Str)], F, lq_is_path, sc_is_path, rfl, rfl, s_is_path, fun j hj => ⟨[], [], L2.FunD.bindsN F fun _ _ _ _ _ _ us hl => match us, hl with | [_, _], _ => rfl, .nil, fun κ G ρ H _ => ?_⟩, fun k hk => absurd (show k ∈ ([] : List KwS) from hk) List.not_mem_nil⟩⟩
  · show RVs κ G ρ H (([] : List PV).drop j) []
    simp [RVs]
theorem sc_need_path : L2.FnScope n_need_path [("arm" : PySem.Str), ("thing" : PySem.Str)] (L2.defScope (top 38)) := ⟨rfl, rfl, rfl, by decide +kernel, rfl, by decide +kernel, by decide +kernel⟩
theorem lq_need_path : lamB n_need_path = true → ("need_path" : PySem.Str) ∈ lamsL := fun h => absurd h (by decide +kernel)
theorem ok_need_path (c : He.SaysD fas fn K) : DefOk Γ K (faOf K) 14 ⟨2, 2, true, b_need_path⟩ := by
  obtain ⟨fd, F⟩ := c.def_ 14 (d := dd_need_path) rfl
  refine ⟨⟨_, _, _, _, _, _, _, fd, n_need_path, [("arm" : PySem.Str), ("thing" : PySem.Str)], F, lq_need_path, sc_need_path, rfl, rfl, s_need_path, fun j hj => ⟨[], [], L2.FunD.bindsN F fun _ _ _ _ _ _ us hl => match us, hl with | [_, _], _ => rfl, .nil, fun κ G ρ H _ => ?_⟩, fun k hk => absurd (show k ∈ ([] : List KwS) from hk) List.not_mem_nil⟩⟩
  · show RVs κ G ρ H (([] : List PV).drop j) []
    simp [RVs]
theorem sc_arm_by : L2.FnScope n_arm_by [("arm" : PySem.Str), ("path" : PySem.Str)] (L2.defScope (top 39)) := ⟨rfl, rfl, rfl, by decide +kernel, rfl, by decide +kernel, by decide +kernel⟩
theorem lq_arm_by : lamB n_arm_by = true → ("arm_by" : PySem.Str) ∈ lamsL := fun h => absurd h (by decide +kernel)
theorem ok_arm_by (c : He.SaysD fas fn K) : DefOk Γ K (faOf K) 15 ⟨2, 4, true, b_arm_by⟩ := by
  obtain ⟨fd, F⟩ := c.def_ 15 (d := dd_arm_by) rfl
  refine ⟨⟨_, _, _, _, _, _, _, fd, n_arm_by, [("arm" : PySem.Str), ("path" : PySem.Str)], F, lq_arm_by, sc_arm_by, rfl, rfl, s_arm_by, fun j hj => ⟨[], [], L2.FunD.bindsN F fun _ _ _ _ _ _ us hl => match us, hl with | [_, _], _ => rfl, .nil, fun κ G ρ H _ => ?_⟩, fun k hk => absurd (show k ∈ ([] : List KwS) from hk) List.not_mem_nil⟩⟩
  · show RVs κ G ρ H (([] : List PV).drop j) []
    simp [RVs]
theorem sc_arm_at : L2.FnScope n_arm_at [("arm" : PySem.Str), ("path" : PySem.Str)] (L2.defScope (top 40)) := ⟨rfl, rfl, rfl, by decide +kernel, rfl, by decide +kernel, by decide +kernel⟩
theorem lq_arm_at : lamB n_arm_at = true → ("arm_at" : PySem.Str) ∈ lamsL := fun h => absurd h (by decide +kernel)
theorem ok_arm_at (c : He.SaysD fas fn K) : DefOk Γ K (faOf K) 16 ⟨2, 2, true, b_arm_at⟩ := by
  obtain ⟨fd, F⟩ := c.def_ 16 (d := dd_arm_at) rfl
  refine ⟨⟨_, _, _, _, _, _, _, fd, n_arm_at, [("arm" : PySem.Str), ("path" : PySem.Str)], F, lq_arm_at, sc_arm_at, rfl, rfl, s_arm_at, fun j hj => ⟨[], [], L2.FunD.bindsN F fun _ _ _ _ _ _ us hl => match us, hl with | [_, _], _ => rfl, .nil, fun κ G ρ H _ => ?_⟩, fun k hk => ?_⟩⟩
  · show RVs κ G ρ H (([] : List PV).drop j) []
    simp [RVs]
  · have hk : k ∈ ([⟨0, [(⟨#[112, 97, 116, 104]⟩ : PySem.Str), (⟨#[97, 114, 109]⟩ : PySem.Str)], [1, 0]⟩] : List KwS) := hk
    simp only [List.mem_cons, List.not_mem_nil, or_false] at hk
    rcases hk with rfl
    · exact ⟨_, [], L2.FunD.kbN F 0 [(⟨#[112, 97, 116, 104]⟩ : PySem.Str), (⟨#[97, 114, 109]⟩ : PySem.Str)] [1, 0] fun _ _ _ _ _ _ us ws hu hw => match us, hu, ws, hw with | [], _, [_, _], _ => rfl, fun κ G ρ H _ => (show RVs κ G ρ H ([] : List PV) [] from RVs.nil)⟩
theorem sc_mirrored_by : L2.FnScope n_mirrored_by [("thing" : PySem.Str)] (L2.defScope (top 41)) := ⟨rfl, rfl, rfl, by decide +kernel, rfl, by decide +kernel, by decide +kernel⟩
theorem lq_mirrored_by : lamB n_mirrored_by = true → ("mirrored_by" : PySem.Str) ∈ lamsL := fun h => absurd h (by decide +kernel)
theorem ok_mirrored_by (c : He.SaysD fas fn K) : DefOk Γ K (faOf K) 17 ⟨1, 8, true, b_mirrored_by⟩ := by
  obtain ⟨fd, F⟩ := c.def_ 17 (d := dd_mirrored_by) rfl
  refine ⟨⟨_, _, _, _, _, _, _, fd, n_mirrored_by, [("thing" : PySem.Str)], F, lq_mirrored_by, sc_mirrored_by, rfl, rfl, s_mirrored_by, fun j hj => ⟨[], [], L2.FunD.bindsN F fun _ _ _ _ _ _ us hl => match us, hl with | [_], _ => rfl, .nil, fun κ G ρ H _ => ?_⟩, fun k hk => absurd (show k ∈ ([] : List KwS) from hk) List.not_mem_nil⟩⟩
  · show RVs κ G ρ H (([] : List PV).drop j) []
    simp [RVs]
theorem sc_mirrored : L2.FnScope n_mirrored [("arm" : PySem.Str)] (L2.defScope (top 42)) := ⟨rfl, rfl, rfl, by decide +kernel, rfl, by decide +kernel, by decide +kernel⟩
theorem lq_mirrored : lamB n_mirrored = true → ("mirrored" : PySem.Str) ∈ lamsL := fun h => absurd h (by decide +kernel)
theorem ok_mirrored (c : He.SaysD fas fn K) : DefOk Γ K (faOf K) 18 ⟨1, 1, true, b_mirrored⟩ := by
  obtain ⟨fd, F⟩ := c.def_ 18 (d := dd_mirrored) rfl
  refine ⟨⟨_, _, _, _, _, _, _, fd, n_mirrored, [("arm" : PySem.Str)], F, lq_mirrored, sc_mirrored, rfl, rfl, s_mirrored, fun j hj => ⟨[], [], L2.FunD.bindsN F fun _ _ _ _ _ _ us hl => match us, hl with | [_], _ => rfl, .nil, fun κ G ρ H _ => ?_⟩, fun k hk => ?_⟩⟩
  · show RVs κ G ρ H (([] : List PV).drop j) []
    simp [RVs]
  · have hk : k ∈ ([⟨0, [(⟨#[97, 114, 109]⟩ : PySem.Str)], [0]⟩] : List KwS) := hk
    simp only [List.mem_cons, List.not_mem_nil, or_false] at hk
    rcases hk with rfl
    · exact ⟨_, [], L2.FunD.kbN F 0 [(⟨#[97, 114, 109]⟩ : PySem.Str)] [0] fun _ _ _ _ _ _ us ws hu hw => match us, hu, ws, hw with | [], _, [_], _ => rfl, fun κ G ρ H _ => (show RVs κ G ρ H ([] : List PV) [] from RVs.nil)⟩
theorem sc_put_by : L2.FnScope n_put_by [("arm" : PySem.Str), ("path" : PySem.Str), ("thing" : PySem.Str)] (L2.defScope (top 43)) := ⟨rfl, rfl, rfl, by decide +kernel, rfl, by decide +kernel, by decide +kernel⟩
theorem lq_put_by : lamB n_put_by = true → ("put_by" : PySem.Str) ∈ lamsL := fun h => absurd h (by decide +kernel)
theorem ok_put_by (c : He.SaysD fas fn K) : DefOk Γ K (faOf K) 19 ⟨3, 6, true, b_put_by⟩ := by
  obtain ⟨fd, F⟩ := c.def_ 19 (d := dd_put_by) rfl
  refine ⟨⟨_, _, _, _, _, _, _, fd, n_put_by, [("arm" : PySem.Str), ("path" : PySem.Str), ("thing" : PySem.Str)], F, lq_put_by, sc_put_by, rfl, rfl, s_put_by, fun j hj => ⟨[], [], L2.FunD.bindsN F fun _ _ _ _ _ _ us hl => match us, hl with | [_, _, _], _ => rfl, .nil, fun κ G ρ H _ => ?_⟩, fun k hk => absurd (show k ∈ ([] : List KwS) from hk) List.not_mem_nil⟩⟩
  · show RVs κ G ρ H (([] : List PV).drop j) []
    simp [RVs]
theorem sc_put : L2.FnScope n_put [("arm" : PySem.Str), ("path" : PySem.Str), ("thing" : PySem.Str)] (L2.defScope (top 44)) := ⟨rfl, rfl, rfl, by decide +kernel, rfl, by decide +kernel, by decide +kernel⟩
theorem lq_put : lamB n_put = true → ("put" : PySem.Str) ∈ lamsL := fun h => absurd h (by decide +kernel)
theorem ok_put (c : He.SaysD fas fn K) : DefOk Γ K (faOf K) 20 ⟨3, 6, true, b_put⟩ := by
  obtain ⟨fd, F⟩ := c.def_ 20 (d := dd_put) rfl
  refine ⟨⟨_, _, _, _, _, _, _, fd, n_put, [("arm" : PySem.Str), ("path" : PySem.Str), ("thing" : PySem.Str)], F, lq_put, sc_put, rfl, rfl, s_put, fun j hj => ⟨[], [], L2.FunD.bindsN F fun _ _ _ _ _ _ us hl => match us, hl with | [_, _, _], _ => rfl, .nil, fun κ G ρ H _ => ?_⟩, fun k hk => ?_⟩⟩
  · show RVs κ G ρ H (([] : List PV).drop j) []
    simp [RVs]
  · have hk : k ∈ ([⟨0, [(⟨#[116, 104, 105, 110, 103]⟩ : PySem.Str), (⟨#[112, 97, 116, 104]⟩ : PySem.Str), (⟨#[97, 114, 109]⟩ : PySem.Str)], [2, 1, 0]⟩] : List KwS) := hk
    simp only [List.mem_cons, List.not_mem_nil, or_false] at hk
    rcases hk with rfl
    · exact ⟨_, [], L2.FunD.kbN F 0 [(⟨#[116, 104, 105, 110, 103]⟩ : PySem.Str), (⟨#[112, 97, 116, 104]⟩ : PySem.Str), (⟨#[97, 114, 109]⟩ : PySem.Str)] [2, 1, 0] fun _ _ _ _ _ _ us ws hu hw => match us, hu, ws, hw with | [], _, [_, _, _], _ => rfl, fun κ G ρ H _ => (show RVs κ G ρ H ([] : List PV) [] from RVs.nil)⟩
theorem sc_is_bead : L2.FnScope n_is_bead [("arm" : PySem.Str), ("thing" : PySem.Str)] (L2.defScope (top 50)) := ⟨rfl, rfl, rfl, by decide +kernel, rfl, by decide +kernel, by decide +kernel⟩
theorem lq_is_bead : lamB n_is_bead = true → ("is_bead" : PySem.Str) ∈ lamsL := fun h => absurd h (by decide +kernel)
theorem ok_is_bead (c : He.SaysD fas fn K) : DefOk Γ K (faOf K) 21 ⟨2, 2, true, b_is_bead⟩ := by
  obtain ⟨fd, F⟩ := c.def_ 21 (d := dd_is_bead) rfl
  refine ⟨⟨_, _, _, _, _, _, _, fd, n_is_bead, [("arm" : PySem.Str), ("thing" : PySem.Str)], F, lq_is_bead, sc_is_bead, rfl, rfl, s_is_bead, fun j hj => ⟨[], [], L2.FunD.bindsN F fun _ _ _ _ _ _ us hl => match us, hl with | [_, _], _ => rfl, .nil, fun κ G ρ H _ => ?_⟩, fun k hk => absurd (show k ∈ ([] : List KwS) from hk) List.not_mem_nil⟩⟩
  · show RVs κ G ρ H (([] : List PV).drop j) []
    simp [RVs]
theorem sc_are_beads : L2.FnScope n_are_beads [("arm" : PySem.Str), ("thing" : PySem.Str)] (L2.defScope (top 51)) := ⟨rfl, rfl, rfl, by decide +kernel, rfl, by decide +kernel, by decide +kernel⟩
theorem lq_are_beads : lamB n_are_beads = true → ("are_beads" : PySem.Str) ∈ lamsL := fun h => absurd h (by decide +kernel)
theorem ok_are_beads (c : He.SaysD fas fn K) : DefOk Γ K (faOf K) 22 ⟨2, 3, true, b_are_beads⟩ := by
  obtain ⟨fd, F⟩ := c.def_ 22 (d := dd_are_beads) rfl
  refine ⟨⟨_, _, _, _, _, _, _, fd, n_are_beads, [("arm" : PySem.Str), ("thing" : PySem.Str)], F, lq_are_beads, sc_are_beads, rfl, rfl, s_are_beads, fun j hj => ⟨[], [], L2.FunD.bindsN F fun _ _ _ _ _ _ us hl => match us, hl with | [_, _], _ => rfl, .nil, fun κ G ρ H _ => ?_⟩, fun k hk => absurd (show k ∈ ([] : List KwS) from hk) List.not_mem_nil⟩⟩
  · show RVs κ G ρ H (([] : List PV).drop j) []
    simp [RVs]
theorem sc_is_standing_by : L2.FnScope n_is_standing_by [("arm" : PySem.Str), ("thing" : PySem.Str)] (L2.defScope (top 52)) := ⟨rfl, rfl, rfl, by decide +kernel, rfl, by decide +kernel, by decide +kernel⟩
theorem lq_is_standing_by : lamB n_is_standing_by = true → ("is_standing_by" : PySem.Str) ∈ lamsL := fun h => absurd h (by decide +kernel)
theorem ok_is_standing_by (c : He.SaysD fas fn K) : DefOk Γ K (faOf K) 23 ⟨2, 5, true, b_is_standing_by⟩ := by
  obtain ⟨fd, F⟩ := c.def_ 23 (d := dd_is_standing_by) rfl
  refine ⟨⟨_, _, _, _, _, _, _, fd, n_is_standing_by, [("arm" : PySem.Str), ("thing" : PySem.Str)], F, lq_is_standing_by, sc_is_standing_by, rfl, rfl, s_is_standing_by, fun j hj => ⟨[], [], L2.FunD.bindsN F fun _ _ _ _ _ _ us hl => match us, hl with | [_, _], _ => rfl, .nil, fun κ G ρ H _ => ?_⟩, fun k hk => absurd (show k ∈ ([] : List KwS) from hk) List.not_mem_nil⟩⟩
  · show RVs κ G ρ H (([] : List PV).drop j) []
    simp [RVs]
theorem sc_is_standing : L2.FnScope n_is_standing [("arm" : PySem.Str), ("thing" : PySem.Str)] (L2.defScope (top 53)) := ⟨rfl, rfl, rfl, by decide +kernel, rfl, by decide +kernel, by decide +kernel⟩
theorem lq_is_standing : lamB n_is_standing = true → ("is_standing" : PySem.Str) ∈ lamsL := fun h => absurd h (by decide +kernel)
theorem ok_is_standing (c : He.SaysD fas fn K) : DefOk Γ K (faOf K) 24 ⟨2, 2, true, b_is_standing⟩ := by
  obtain ⟨fd, F⟩ := c.def_ 24 (d := dd_is_standing) rfl
  refine ⟨⟨_, _, _, _, _, _, _, fd, n_is_standing, [("arm" : PySem.Str), ("thing" : PySem.Str)], F, lq_is_standing, sc_is_standing, rfl, rfl, s_is_standing, fun j hj => ⟨[], [], L2.FunD.bindsN F fun _ _ _ _ _ _ us hl => match us, hl with | [_, _], _ => rfl, .nil, fun κ G ρ H _ => ?_⟩, fun k hk => ?_⟩⟩
  · show RVs κ G ρ H (([] : List PV).drop j) []
    simp [RVs]
  · have hk : k ∈ ([⟨0, [(⟨#[116, 104, 105, 110, 103]⟩ : PySem.Str), (⟨#[97, 114, 109]⟩ : PySem.Str)], [1, 0]⟩] : List KwS) := hk
    simp only [List.mem_cons, List.not_mem_nil, or_false] at hk
    rcases hk with rfl
    · exact ⟨_, [], L2.FunD.kbN F 0 [(⟨#[116, 104, 105, 110, 103]⟩ : PySem.Str), (⟨#[97, 114, 109]⟩ : PySem.Str)] [1, 0] fun _ _ _ _ _ _ us ws hu hw => match us, hu, ws, hw with | [], _, [_, _], _ => rfl, fun κ G ρ H _ => (show RVs κ G ρ H ([] : List PV) [] from RVs.nil)⟩
theorem sc_need_standing : L2.FnScope n_need_standing [("arm" : PySem.Str), ("thing" : PySem.Str)] (L2.defScope (top 54)) := ⟨rfl, rfl, rfl, by decide +kernel, rfl, by decide +kernel, by decide +kernel⟩
theorem lq_need_standing : lamB n_need_standing = true → ("need_standing" : PySem.Str) ∈ lamsL := fun h => absurd h (by decide +kernel)
theorem ok_need_standing (c : He.SaysD fas fn K) : DefOk Γ K (faOf K) 25 ⟨2, 2, true, b_need_standing⟩ := by
  obtain ⟨fd, F⟩ := c.def_ 25 (d := dd_need_standing) rfl
  refine ⟨⟨_, _, _, _, _, _, _, fd, n_need_standing, [("arm" : PySem.Str), ("thing" : PySem.Str)], F, lq_need_standing, sc_need_standing, rfl, rfl, s_need_standing, fun j hj => ⟨[], [], L2.FunD.bindsN F fun _ _ _ _ _ _ us hl => match us, hl with | [_, _], _ => rfl, .nil, fun κ G ρ H _ => ?_⟩, fun k hk => absurd (show k ∈ ([] : List KwS) from hk) List.not_mem_nil⟩⟩
  · show RVs κ G ρ H (([] : List PV).drop j) []
    simp [RVs]
theorem sc_bare : L2.FnScope n_bare [("arm" : PySem.Str)] (L2.defScope (top 55)) := ⟨rfl, rfl, rfl, by decide +kernel, rfl, by decide +kernel, by decide +kernel⟩
theorem lq_bare : lamB n_bare = true → ("bare" : PySem.Str) ∈ lamsL := fun h => absurd h (by decide +kernel)
theorem ok_bare (c : He.SaysD fas fn K) : DefOk Γ K (faOf K) 26 ⟨1, 1, true, b_bare⟩ := by
  obtain ⟨fd, F⟩ := c.def_ 26 (d := dd_bare) rfl
  refine ⟨⟨_, _, _, _, _, _, _, fd, n_bare, [("arm" : PySem.Str)], F, lq_bare, sc_bare, rfl, rfl, s_bare, fun j hj => ⟨[], [], L2.FunD.bindsN F fun _ _ _ _ _ _ us hl => match us, hl with | [_], _ => rfl, .nil, fun κ G ρ H _ => ?_⟩, fun k hk => ?_⟩⟩
  · show RVs κ G ρ H (([] : List PV).drop j) []
    simp [RVs]
  · have hk : k ∈ ([⟨0, [(⟨#[97, 114, 109]⟩ : PySem.Str)], [0]⟩] : List KwS) := hk
    simp only [List.mem_cons, List.not_mem_nil, or_false] at hk
    rcases hk with rfl
    · exact ⟨_, [], L2.FunD.kbN F 0 [(⟨#[97, 114, 109]⟩ : PySem.Str)] [0] fun _ _ _ _ _ _ us ws hu hw => match us, hu, ws, hw with | [], _, [_], _ => rfl, fun κ G ρ H _ => (show RVs κ G ρ H ([] : List PV) [] from RVs.nil)⟩
theorem sc_Seenu__initu_ : L2.FnScope n_Seenu__initu_ [("self" : PySem.Str), ("arm" : PySem.Str), ("standing" : PySem.Str)] (L2.defScope (mem 56 0)) := ⟨rfl, rfl, rfl, by decide +kernel, rfl, by decide +kernel, by decide +kernel⟩
theorem lq_Seenu__initu_ : lamB n_Seenu__initu_ = true → ("Seen.__init__" : PySem.Str) ∈ lamsL := fun h => absurd h (by decide +kernel)
theorem ok_Seenu__initu_ (c : He.SaysD fas fn K) : DefOk Γ K (faOf K) 27 ⟨3, 3, false, b_Seenu__initu_⟩ := by
  obtain ⟨fd, F⟩ := c.def_ 27 (d := dd_Seenu__initu_) rfl
  refine ⟨⟨_, _, _, _, _, _, _, fd, n_Seenu__initu_, [("self" : PySem.Str), ("arm" : PySem.Str), ("standing" : PySem.Str)], F, lq_Seenu__initu_, sc_Seenu__initu_, rfl, rfl, s_Seenu__initu_, fun j hj => ⟨[], [], L2.FunD.bindsN F fun _ _ _ _ _ _ us hl => match us, hl with | [_, _, _], _ => rfl, .nil, fun κ G ρ H _ => ?_⟩, fun k hk => absurd (show k ∈ ([] : List KwS) from hk) List.not_mem_nil⟩⟩
  · show RVs κ G ρ H (([] : List PV).drop j) []
    simp [RVs]
theorem sc_Seen_look : L2.FnScope n_Seen_look [("self" : PySem.Str), ("arm" : PySem.Str), ("path" : PySem.Str)] (L2.defScope (mem 56 1)) := ⟨rfl, rfl, rfl, by decide +kernel, rfl, by decide +kernel, by decide +kernel⟩
theorem lq_Seen_look : lamB n_Seen_look = true → ("Seen.look" : PySem.Str) ∈ lamsL := fun h => absurd h (by decide +kernel)
theorem ok_Seen_look (c : He.SaysD fas fn K) : DefOk Γ K (faOf K) 28 ⟨3, 7, false, b_Seen_look⟩ := by
  obtain ⟨fd, F⟩ := c.def_ 28 (d := dd_Seen_look) rfl
  refine ⟨⟨_, _, _, _, _, _, _, fd, n_Seen_look, [("self" : PySem.Str), ("arm" : PySem.Str), ("path" : PySem.Str)], F, lq_Seen_look, sc_Seen_look, rfl, rfl, s_Seen_look, fun j hj => ⟨[], [], L2.FunD.bindsN F fun _ _ _ _ _ _ us hl => match us, hl with | [_, _, _], _ => rfl, .nil, fun κ G ρ H _ => ?_⟩, fun k hk => absurd (show k ∈ ([] : List KwS) from hk) List.not_mem_nil⟩⟩
  · show RVs κ G ρ H (([] : List PV).drop j) []
    simp [RVs]
theorem sc_word_by : L2.FnScope n_word_by [("arm" : PySem.Str), ("tilt_now" : PySem.Str)] (L2.defScope (top 57)) := ⟨rfl, rfl, rfl, by decide +kernel, rfl, by decide +kernel, by decide +kernel⟩
theorem lq_word_by : lamB n_word_by = true → ("word_by" : PySem.Str) ∈ lamsL := fun h => absurd h (by decide +kernel)
theorem ok_word_by (c : He.SaysD fas fn K) : DefOk Γ K (faOf K) 29 ⟨2, 2, true, b_word_by⟩ := by
  obtain ⟨fd, F⟩ := c.def_ 29 (d := dd_word_by) rfl
  refine ⟨⟨_, _, _, _, _, _, _, fd, n_word_by, [("arm" : PySem.Str), ("tilt_now" : PySem.Str)], F, lq_word_by, sc_word_by, rfl, rfl, s_word_by, fun j hj => ⟨[], [], L2.FunD.bindsN F fun _ _ _ _ _ _ us hl => match us, hl with | [_, _], _ => rfl, .nil, fun κ G ρ H _ => ?_⟩, fun k hk => absurd (show k ∈ ([] : List KwS) from hk) List.not_mem_nil⟩⟩
  · show RVs κ G ρ H (([] : List PV).drop j) []
    simp [RVs]
theorem sc_words_by : L2.FnScope n_words_by [("arm" : PySem.Str), ("standing" : PySem.Str)] (L2.defScope (top 58)) := ⟨rfl, rfl, rfl, by decide +kernel, rfl, by decide +kernel, by decide +kernel⟩
theorem lq_words_by : lamB n_words_by = true → ("words_by" : PySem.Str) ∈ lamsL := fun h => absurd h (by decide +kernel)
theorem ok_words_by (c : He.SaysD fas fn K) : DefOk Γ K (faOf K) 30 ⟨2, 4, true, b_words_by⟩ := by
  obtain ⟨fd, F⟩ := c.def_ 30 (d := dd_words_by) rfl
  refine ⟨⟨_, _, _, _, _, _, _, fd, n_words_by, [("arm" : PySem.Str), ("standing" : PySem.Str)], F, lq_words_by, sc_words_by, rfl, rfl, s_words_by, fun j hj => ⟨[], [], L2.FunD.bindsN F fun _ _ _ _ _ _ us hl => match us, hl with | [_, _], _ => rfl, .nil, fun κ G ρ H _ => ?_⟩, fun k hk => absurd (show k ∈ ([] : List KwS) from hk) List.not_mem_nil⟩⟩
  · show RVs κ G ρ H (([] : List PV).drop j) []
    simp [RVs]
theorem sc_need_place_of : L2.FnScope n_need_place_of [("arm" : PySem.Str), ("standing" : PySem.Str), ("path" : PySem.Str)] (L2.defScope (top 59)) := ⟨rfl, rfl, rfl, by decide +kernel, rfl, by decide +kernel, by decide +kernel⟩
theorem lq_need_place_of : lamB n_need_place_of = true → ("need_place_of" : PySem.Str) ∈ lamsL := fun h => absurd h (by decide +kernel)
theorem ok_need_place_of (c : He.SaysD fas fn K) : DefOk Γ K (faOf K) 31 ⟨3, 3, true, b_need_place_of⟩ := by
  obtain ⟨fd, F⟩ := c.def_ 31 (d := dd_need_place_of) rfl
  refine ⟨⟨_, _, _, _, _, _, _, fd, n_need_place_of, [("arm" : PySem.Str), ("standing" : PySem.Str), ("path" : PySem.Str)], F, lq_need_place_of, sc_need_place_of, rfl, rfl, s_need_place_of, fun j hj => ⟨[], [], L2.FunD.bindsN F fun _ _ _ _ _ _ us hl => match us, hl with | [_, _, _], _ => rfl, .nil, fun κ G ρ H _ => ?_⟩, fun k hk => absurd (show k ∈ ([] : List KwS) from hk) List.not_mem_nil⟩⟩
  · show RVs κ G ρ H (([] : List PV).drop j) []
    simp [RVs]
theorem sc_load : L2.FnScope n_load [("arm" : PySem.Str), ("standing" : PySem.Str), ("path" : PySem.Str)] (L2.defScope (top 60)) := ⟨rfl, rfl, rfl, by decide +kernel, rfl, by decide +kernel, by decide +kernel⟩
theorem lq_load : lamB n_load = true → ("load" : PySem.Str) ∈ lamsL := fun h => absurd h (by decide +kernel)
theorem ok_load (c : He.SaysD fas fn K) : DefOk Γ K (faOf K) 32 ⟨3, 3, true, b_load⟩ := by
  obtain ⟨fd, F⟩ := c.def_ 32 (d := dd_load) rfl
  refine ⟨⟨_, _, _, _, _, _, _, fd, n_load, [("arm" : PySem.Str), ("standing" : PySem.Str), ("path" : PySem.Str)], F, lq_load, sc_load, rfl, rfl, s_load, fun j hj => ⟨[], [], L2.FunD.bindsN F fun _ _ _ _ _ _ us hl => match us, hl with | [_, _, _], _ => rfl, .nil, fun κ G ρ H _ => ?_⟩, fun k hk => ?_⟩⟩
  · show RVs κ G ρ H (([] : List PV).drop j) []
    simp [RVs]
  · have hk : k ∈ ([⟨0, [(⟨#[112, 97, 116, 104]⟩ : PySem.Str), (⟨#[115, 116, 97, 110, 100, 105, 110, 103]⟩ : PySem.Str), (⟨#[97, 114, 109]⟩ : PySem.Str)], [2, 1, 0]⟩] : List KwS) := hk
    simp only [List.mem_cons, List.not_mem_nil, or_false] at hk
    rcases hk with rfl
    · exact ⟨_, [], L2.FunD.kbN F 0 [(⟨#[112, 97, 116, 104]⟩ : PySem.Str), (⟨#[115, 116, 97, 110, 100, 105, 110, 103]⟩ : PySem.Str), (⟨#[97, 114, 109]⟩ : PySem.Str)] [2, 1, 0] fun _ _ _ _ _ _ us ws hu hw => match us, hu, ws, hw with | [], _, [_, _, _], _ => rfl, fun κ G ρ H _ => (show RVs κ G ρ H ([] : List PV) [] from RVs.nil)⟩
theorem sc_tilt : L2.FnScope n_tilt [("arm" : PySem.Str), ("standing" : PySem.Str), ("path" : PySem.Str)] (L2.defScope (top 61)) := ⟨rfl, rfl, rfl, by decide +kernel, rfl, by decide +kernel, by decide +kernel⟩
theorem lq_tilt : lamB n_tilt = true → ("tilt" : PySem.Str) ∈ lamsL := fun h => absurd h (by decide +kernel)
theorem ok_tilt (c : He.SaysD fas fn K) : DefOk Γ K (faOf K) 33 ⟨3, 3, true, b_tilt⟩ := by
  obtain ⟨fd, F⟩ := c.def_ 33 (d := dd_tilt) rfl
  refine ⟨⟨_, _, _, _, _, _, _, fd, n_tilt, [("arm" : PySem.Str), ("standing" : PySem.Str), ("path" : PySem.Str)], F, lq_tilt, sc_tilt, rfl, rfl, s_tilt, fun j hj => ⟨[], [], L2.FunD.bindsN F fun _ _ _ _ _ _ us hl => match us, hl with | [_, _, _], _ => rfl, .nil, fun κ G ρ H _ => ?_⟩, fun k hk => ?_⟩⟩
  · show RVs κ G ρ H (([] : List PV).drop j) []
    simp [RVs]
  · have hk : k ∈ ([⟨0, [(⟨#[112, 97, 116, 104]⟩ : PySem.Str), (⟨#[115, 116, 97, 110, 100, 105, 110, 103]⟩ : PySem.Str), (⟨#[97, 114, 109]⟩ : PySem.Str)], [2, 1, 0]⟩] : List KwS) := hk
    simp only [List.mem_cons, List.not_mem_nil, or_false] at hk
    rcases hk with rfl
    · exact ⟨_, [], L2.FunD.kbN F 0 [(⟨#[112, 97, 116, 104]⟩ : PySem.Str), (⟨#[115, 116, 97, 110, 100, 105, 110, 103]⟩ : PySem.Str), (⟨#[97, 114, 109]⟩ : PySem.Str)] [2, 1, 0] fun _ _ _ _ _ _ us ws hu hw => match us, hu, ws, hw with | [], _, [_, _, _], _ => rfl, fun κ G ρ H _ => (show RVs κ G ρ H ([] : List PV) [] from RVs.nil)⟩
theorem sc_word : L2.FnScope n_word [("arm" : PySem.Str), ("standing" : PySem.Str), ("path" : PySem.Str)] (L2.defScope (top 62)) := ⟨rfl, rfl, rfl, by decide +kernel, rfl, by decide +kernel, by decide +kernel⟩
theorem lq_word : lamB n_word = true → ("word" : PySem.Str) ∈ lamsL := fun h => absurd h (by decide +kernel)
theorem ok_word (c : He.SaysD fas fn K) : DefOk Γ K (faOf K) 34 ⟨3, 3, true, b_word⟩ := by
  obtain ⟨fd, F⟩ := c.def_ 34 (d := dd_word) rfl
  refine ⟨⟨_, _, _, _, _, _, _, fd, n_word, [("arm" : PySem.Str), ("standing" : PySem.Str), ("path" : PySem.Str)], F, lq_word, sc_word, rfl, rfl, s_word, fun j hj => ⟨[], [], L2.FunD.bindsN F fun _ _ _ _ _ _ us hl => match us, hl with | [_, _, _], _ => rfl, .nil, fun κ G ρ H _ => ?_⟩, fun k hk => ?_⟩⟩
  · show RVs κ G ρ H (([] : List PV).drop j) []
    simp [RVs]
  · have hk : k ∈ ([⟨0, [(⟨#[112, 97, 116, 104]⟩ : PySem.Str), (⟨#[115, 116, 97, 110, 100, 105, 110, 103]⟩ : PySem.Str), (⟨#[97, 114, 109]⟩ : PySem.Str)], [2, 1, 0]⟩] : List KwS) := hk
    simp only [List.mem_cons, List.not_mem_nil, or_false] at hk
    rcases hk with rfl
    · exact ⟨_, [], L2.FunD.kbN F 0 [(⟨#[112, 97, 116, 104]⟩ : PySem.Str), (⟨#[115, 116, 97, 110, 100, 105, 110, 103]⟩ : PySem.Str), (⟨#[97, 114, 109]⟩ : PySem.Str)] [2, 1, 0] fun _ _ _ _ _ _ us ws hu hw => match us, hu, ws, hw with | [], _, [_, _, _], _ => rfl, fun κ G ρ H _ => (show RVs κ G ρ H ([] : List PV) [] from RVs.nil)⟩
theorem sc__law_cell_at : L2.FnScope n__law_cell_at [("_law_script" : PySem.Str), ("_law_k" : PySem.Str)] (L2.defScope (top 64)) := ⟨rfl, rfl, rfl, by decide +kernel, rfl, by decide +kernel, by decide +kernel⟩
theorem lq__law_cell_at : lamB n__law_cell_at = true → ("_law_cell_at" : PySem.Str) ∈ lamsL := fun h => absurd h (by decide +kernel)
theorem ok__law_cell_at (c : He.SaysD fas fn K) : DefOk Γ K (faOf K) 35 ⟨2, 2, true, b__law_cell_at⟩ := by
  obtain ⟨fd, F⟩ := c.def_ 35 (d := dd__law_cell_at) rfl
  refine ⟨⟨_, _, _, _, _, _, _, fd, n__law_cell_at, [("_law_script" : PySem.Str), ("_law_k" : PySem.Str)], F, lq__law_cell_at, sc__law_cell_at, rfl, rfl, s__law_cell_at, fun j hj => ⟨[], [], L2.FunD.bindsN F fun _ _ _ _ _ _ us hl => match us, hl with | [_, _], _ => rfl, .nil, fun κ G ρ H _ => ?_⟩, fun k hk => absurd (show k ∈ ([] : List KwS) from hk) List.not_mem_nil⟩⟩
  · show RVs κ G ρ H (([] : List PV).drop j) []
    simp [RVs]
theorem sc__law_pen : L2.FnScope n__law_pen [("_law_cell" : PySem.Str)] (L2.defScope (top 65)) := ⟨rfl, rfl, rfl, by decide +kernel, rfl, by decide +kernel, by decide +kernel⟩
theorem lq__law_pen : lamB n__law_pen = true → ("_law_pen" : PySem.Str) ∈ lamsL := fun h => absurd h (by decide +kernel)
theorem ok__law_pen (c : He.SaysD fas fn K) : DefOk Γ K (faOf K) 36 ⟨1, 1, false, b__law_pen⟩ := by
  obtain ⟨fd, F⟩ := c.def_ 36 (d := dd__law_pen) rfl
  refine ⟨⟨_, _, _, _, _, _, _, fd, n__law_pen, [("_law_cell" : PySem.Str)], F, lq__law_pen, sc__law_pen, rfl, rfl, s__law_pen, fun j hj => ⟨[], [], L2.FunD.bindsN F fun _ _ _ _ _ _ us hl => match us, hl with | [_], _ => rfl, .nil, fun κ G ρ H _ => ?_⟩, fun k hk => absurd (show k ∈ ([] : List KwS) from hk) List.not_mem_nil⟩⟩
  · show RVs κ G ρ H (([] : List PV).drop j) []
    simp [RVs]
theorem sc__law_draw : L2.FnScope n__law_draw [("_law_pen_here" : PySem.Str), ("_law_count_own" : PySem.Str)] (L2.defScope (top 66)) := ⟨rfl, rfl, rfl, by decide +kernel, rfl, by decide +kernel, by decide +kernel⟩
theorem lq__law_draw : lamB n__law_draw = true → ("_law_draw" : PySem.Str) ∈ lamsL := fun h => absurd h (by decide +kernel)
theorem ok__law_draw (c : He.SaysD fas fn K) : DefOk Γ K (faOf K) 37 ⟨2, 4, false, b__law_draw⟩ := by
  obtain ⟨fd, F⟩ := c.def_ 37 (d := dd__law_draw) rfl
  refine ⟨⟨_, _, _, _, _, _, _, fd, n__law_draw, [("_law_pen_here" : PySem.Str), ("_law_count_own" : PySem.Str)], F, lq__law_draw, sc__law_draw, rfl, rfl, s__law_draw, fun j hj => ⟨[], [], L2.FunD.bindsN F fun _ _ _ _ _ _ us hl => match us, hl with | [_, _], _ => rfl, .nil, fun κ G ρ H _ => ?_⟩, fun k hk => absurd (show k ∈ ([] : List KwS) from hk) List.not_mem_nil⟩⟩
  · show RVs κ G ρ H (([] : List PV).drop j) []
    simp [RVs]
theorem sc__law_kind : L2.FnScope n__law_kind [("_law_e" : PySem.Str)] (L2.defScope (top 67)) := ⟨rfl, rfl, rfl, by decide +kernel, rfl, by decide +kernel, by decide +kernel⟩
theorem lq__law_kind : lamB n__law_kind = true → ("_law_kind" : PySem.Str) ∈ lamsL := fun h => absurd h (by decide +kernel)
theorem ok__law_kind (c : He.SaysD fas fn K) : DefOk Γ K (faOf K) 38 ⟨1, 3, false, b__law_kind⟩ := by
  obtain ⟨fd, F⟩ := c.def_ 38 (d := dd__law_kind) rfl
  refine ⟨⟨_, _, _, _, _, _, _, fd, n__law_kind, [("_law_e" : PySem.Str)], F, lq__law_kind, sc__law_kind, rfl, rfl, s__law_kind, fun j hj => ⟨[], [], L2.FunD.bindsN F fun _ _ _ _ _ _ us hl => match us, hl with | [_], _ => rfl, .nil, fun κ G ρ H _ => ?_⟩, fun k hk => absurd (show k ∈ ([] : List KwS) from hk) List.not_mem_nil⟩⟩
  · show RVs κ G ρ H (([] : List PV).drop j) []
    simp [RVs]
theorem sc__law_arms_right : L2.FnScope n__law_arms_right [("_law_mobile" : PySem.Str), ("_law_lower" : PySem.Str)] (L2.defScope (top 68)) := ⟨rfl, rfl, rfl, by decide +kernel, rfl, by decide +kernel, by decide +kernel⟩
theorem lq__law_arms_right : lamB n__law_arms_right = true → ("_law_arms_right" : PySem.Str) ∈ lamsL := fun h => absurd h (by decide +kernel)
theorem ok__law_arms_right (c : He.SaysD fas fn K) : DefOk Γ K (faOf K) 39 ⟨2, 2, true, b__law_arms_right⟩ := by
  obtain ⟨fd, F⟩ := c.def_ 39 (d := dd__law_arms_right) rfl
  refine ⟨⟨_, _, _, _, _, _, _, fd, n__law_arms_right, [("_law_mobile" : PySem.Str), ("_law_lower" : PySem.Str)], F, lq__law_arms_right, sc__law_arms_right, rfl, rfl, s__law_arms_right, fun j hj => ⟨[], [], L2.FunD.bindsN F fun _ _ _ _ _ _ us hl => match us, hl with | [_, _], _ => rfl, .nil, fun κ G ρ H _ => ?_⟩, fun k hk => absurd (show k ∈ ([] : List KwS) from hk) List.not_mem_nil⟩⟩
  · show RVs κ G ρ H (([] : List PV).drop j) []
    simp [RVs]
theorem sc__law_beads_right : L2.FnScope n__law_beads_right [("_law_mobile" : PySem.Str), ("_law_spot" : PySem.Str), ("_law_heft" : PySem.Str)] (L2.defScope (top 69)) := ⟨rfl, rfl, rfl, by decide +kernel, rfl, by decide +kernel, by decide +kernel⟩
theorem lq__law_beads_right : lamB n__law_beads_right = true → ("_law_beads_right" : PySem.Str) ∈ lamsL := fun h => absurd h (by decide +kernel)
theorem ok__law_beads_right (c : He.SaysD fas fn K) : DefOk Γ K (faOf K) 40 ⟨3, 6, true, b__law_beads_right⟩ := by
  obtain ⟨fd, F⟩ := c.def_ 40 (d := dd__law_beads_right) rfl
  refine ⟨⟨_, _, _, _, _, _, _, fd, n__law_beads_right, [("_law_mobile" : PySem.Str), ("_law_spot" : PySem.Str), ("_law_heft" : PySem.Str)], F, lq__law_beads_right, sc__law_beads_right, rfl, rfl, s__law_beads_right, fun j hj => ⟨[], [], L2.FunD.bindsN F fun _ _ _ _ _ _ us hl => match us, hl with | [_, _, _], _ => rfl, .nil, fun κ G ρ H _ => ?_⟩, fun k hk => absurd (show k ∈ ([] : List KwS) from hk) List.not_mem_nil⟩⟩
  · show RVs κ G ρ H (([] : List PV).drop j) []
    simp [RVs]
theorem sc__law_errors_right : L2.FnScope n__law_errors_right [] (L2.defScope (top 70)) := ⟨rfl, rfl, rfl, by decide +kernel, rfl, by decide +kernel, by decide +kernel⟩
theorem lq__law_errors_right : lamB n__law_errors_right = true → ("_law_errors_right" : PySem.Str) ∈ lamsL := fun h => absurd h (by decide +kernel)
theorem ok__law_errors_right (c : He.SaysD fas fn K) : DefOk Γ K (faOf K) 41 ⟨0, 4, true, b__law_errors_right⟩ := by
  obtain ⟨fd, F⟩ := c.def_ 41 (d := dd__law_errors_right) rfl
  refine ⟨⟨_, _, _, _, _, _, _, fd, n__law_errors_right, [], F, lq__law_errors_right, sc__law_errors_right, rfl, rfl, s__law_errors_right, fun j hj => ⟨[], [], L2.FunD.bindsN F fun _ _ _ _ _ _ us hl => match us, hl with | [], _ => rfl, .nil, fun κ G ρ H _ => ?_⟩, fun k hk => absurd (show k ∈ ([] : List KwS) from hk) List.not_mem_nil⟩⟩
  · show RVs κ G ρ H (([] : List PV).drop j) []
    simp [RVs]
theorem sc_law : L2.FnScope n_law [("_law_script" : PySem.Str)] (L2.defScope (top 71)) := ⟨rfl, rfl, rfl, by decide +kernel, rfl, by decide +kernel, by decide +kernel⟩
theorem lq_law : lamB n_law = true → ("law" : PySem.Str) ∈ lamsL := fun h => absurd h (by decide +kernel)
theorem ok_law (c : He.SaysD fas fn K) : DefOk Γ K (faOf K) 42 ⟨1, 6, true, b_law⟩ := by
  obtain ⟨fd, F⟩ := c.def_ 42 (d := dd_law) rfl
  refine ⟨⟨_, _, _, _, _, _, _, fd, n_law, [("_law_script" : PySem.Str)], F, lq_law, sc_law, rfl, rfl, s_law, fun j hj => ⟨[], [], L2.FunD.bindsN F fun _ _ _ _ _ _ us hl => match us, hl with | [_], _ => rfl, .nil, fun κ G ρ H _ => ?_⟩, fun k hk => absurd (show k ∈ ([] : List KwS) from hk) List.not_mem_nil⟩⟩
  · show RVs κ G ρ H (([] : List PV).drop j) []
    simp [RVs]
end
theorem rt_R {f : Nat} {d : FnD} (h : Γ.rt f = some d) : tblR f = some d := by
  unfold Pg.rt at h
  split at h
  · rename_i hb
    have h : tbl f = some d := h
    unfold tbl at h
    rw [if_pos hb] at h
    exact h
  · cases h
theorem xv_ok {K : PySem.W.Frag} {h : PySem.Heap} {mg : PySem.Str → Option PySem.Value} (X : K.In h) (G : h.Ns PySem.mainGlobals mg) (c : He.SaysD fas fn K) (ex : exB K = true) : XvT K mg (clOf K) [1, 2, 3, 4, 5, 6, 7, 8, 9, 10, 11, 12, 13, 14] 0 14 := by
  obtain ⟨fT, FT⟩ := c.def_ 43 (d := dd_TooManyu__initu_) rfl
  obtain ⟨tC, tI, tf1, tf2, tT, tR, tF, tS⟩ := tmB_ok (exTm ex)
  exact xvB_ok (exXv ex) (List.forall_mem_cons.mpr ⟨rfl, (List.forall_mem_cons.mpr ⟨rfl, (List.forall_mem_cons.mpr ⟨rfl, (List.forall_mem_cons.mpr ⟨rfl, (List.forall_mem_cons.mpr ⟨rfl, (List.forall_mem_cons.mpr ⟨rfl, (List.forall_mem_cons.mpr ⟨rfl, (List.forall_mem_cons.mpr ⟨rfl, (List.forall_mem_cons.mpr ⟨rfl, (List.forall_mem_cons.mpr ⟨rfl, (List.forall_mem_cons.mpr ⟨rfl, (List.forall_mem_cons.mpr ⟨rfl, (List.forall_mem_cons.mpr ⟨rfl, (List.forall_mem_cons.mpr ⟨rfl, (fun _ h => nomatch h)⟩)⟩)⟩)⟩)⟩)⟩)⟩)⟩)⟩)⟩)⟩)⟩)⟩)⟩) rfl rfl ⟨(by decide : 14 ∈ ([1, 2, 3, 4, 5, 6, 7, 8, 9, 10, 11, 12, 13, 14] : List Nat)), { CT := He.ga K "TiltError", fI := _, fd := fT, pa := _, bd := _, sc := _, self := ("self" : PySem.Str), fa := ("many" : PySem.Str), fb := ("most" : PySem.Str), mc := .type "type", F := FT, S := ⟨rfl, rfl, rfl, by decide +kernel, rfl, by decide +kernel, by decide +kernel⟩, bi := L2.FunD.bindsN FT fun _ _ _ _ _ _ us hl => match us, hl with | [_, _, _], _ => rfl, T := tC, iC := tI, tI := tT, nf := ⟨tf1, tf2⟩, ab := ⟨rfl, rfl⟩, mx := He.glo_ok X G (c.fact 101 (f := .glo ("TooMany" : PySem.Str)) rfl), mT := He.glo_ok X G (c.fact 99 (f := .glo ("TiltError" : PySem.Str)) rfl), rd := tR, fc := tF, sp := tS, tb := TmB.mk (fun _ => ⟨_, rfl⟩) (fun _ => rfl) (fun _ => rfl) (fun _ => rfl) (by decide +kernel) (by decide +kernel), gl := by decide +kernel, lo := by decide +kernel, ok := by decide +kernel }, L2.FunD.kbN FT 1 [("most" : PySem.Str), ("many" : PySem.Str)] [0, 2, 1] fun _ _ _ _ _ _ us ws hu hw => match us, hu, ws, hw with | [_], _, [_, _], _ => rfl⟩
theorem envAll {P : PySem.Program} {w : PySem.World} {K : PySem.W.Frag} {h : PySem.Heap} {mg : PySem.Str → Option PySem.Value} {base : PySem.Heap} (X : K.In h) (G : h.Ns PySem.mainGlobals mg) (c : He.SaysD fas fn K) (ex : exB K = true) (tb : ∀ t ∈ tabsK K, LamX.TabB base mg t.1 t.2.1) : ∀ n, EnvOk Γ ⟨P, w, K, clOf K⟩ mg base n (faOf K) := by
  refine envOk_all (fun f d e => ?_) (fun f x e => ?_) (fun C x e => ?_) (fun C x f e hf => ?_) (fun C x m f e hm => ?_) (fun x v e => ?_) (fun x hx => ?_) (fun C hC => ?_) (fun C x e => ?_) (fun p hp => ?_) tb (fun h => absurd rfl h) (sysB_ok (exSys ex)) (fun h => absurd rfl h) (fun p h => by cases (show xvL = some p from h); exact xv_ok X G c ex)
  · have e := rt_R e
    match f, e with
    | 0, e => cases e; exact ok_is_whole c
    | 1, e => cases e; exact ok_is_within c
    | 2, e => cases e; exact ok_is_long c
    | 3, e => cases e; exact ok_rises c
    | 4, e => cases e; exact ok_falls_not c
    | 5, e => cases e; exact ok_is_arm_by c
    | 6, e => cases e; exact ok_is_weight c
    | 7, e => cases e; exact ok_arms_in c
    | 8, e => cases e; exact ok_deep_of c
    | 9, e => cases e; exact ok_is_arm c
    | 10, e => cases e; exact ok_need_arm c
    | 11, e => cases e; exact ok_paths_by c
    | 12, e => cases e; exact ok_paths c
    | 13, e => cases e; exact ok_is_path c
    | 14, e => cases e; exact ok_need_path c
    | 15, e => cases e; exact ok_arm_by c
    | 16, e => cases e; exact ok_arm_at c
    | 17, e => cases e; exact ok_mirrored_by c
    | 18, e => cases e; exact ok_mirrored c
    | 19, e => cases e; exact ok_put_by c
    | 20, e => cases e; exact ok_put c
    | 21, e => cases e; exact ok_is_bead c
    | 22, e => cases e; exact ok_are_beads c
    | 23, e => cases e; exact ok_is_standing_by c
    | 24, e => cases e; exact ok_is_standing c
    | 25, e => cases e; exact ok_need_standing c
    | 26, e => cases e; exact ok_bare c
    | 27, e => cases e; exact ok_Seenu__initu_ c
    | 28, e => cases e; exact ok_Seen_look c
    | 29, e => cases e; exact ok_word_by c
    | 30, e => cases e; exact ok_words_by c
    | 31, e => cases e; exact ok_need_place_of c
    | 32, e => cases e; exact ok_load c
    | 33, e => cases e; exact ok_tilt c
    | 34, e => cases e; exact ok_word c
    | 35, e => cases e; exact ok__law_cell_at c
    | 36, e => cases e; exact ok__law_pen c
    | 37, e => cases e; exact ok__law_draw c
    | 38, e => cases e; exact ok__law_kind c
    | 39, e => cases e; exact ok__law_arms_right c
    | 40, e => cases e; exact ok__law_beads_right c
    | 41, e => cases e; exact ok__law_errors_right c
    | 42, e => cases e; exact ok_law c
    | k + 43, e => cases e
  · match f, e with
    | 0, e => cases e; exact He.glo_ok X G (c.fact 0 (f := .glo ("is_whole" : PySem.Str)) rfl)
    | 1, e => cases e; exact He.glo_ok X G (c.fact 1 (f := .glo ("is_within" : PySem.Str)) rfl)
    | 2, e => cases e; exact He.glo_ok X G (c.fact 2 (f := .glo ("is_long" : PySem.Str)) rfl)
    | 3, e => cases e; exact He.glo_ok X G (c.fact 3 (f := .glo ("rises" : PySem.Str)) rfl)
    | 4, e => cases e; exact He.glo_ok X G (c.fact 4 (f := .glo ("falls_not" : PySem.Str)) rfl)
    | 5, e => cases e; exact He.glo_ok X G (c.fact 5 (f := .glo ("is_arm_by" : PySem.Str)) rfl)
    | 6, e => cases e; exact He.glo_ok X G (c.fact 6 (f := .glo ("is_weight" : PySem.Str)) rfl)
    | 7, e => cases e; exact He.glo_ok X G (c.fact 7 (f := .glo ("arms_in" : PySem.Str)) rfl)
    | 8, e => cases e; exact He.glo_ok X G (c.fact 8 (f := .glo ("deep_of" : PySem.Str)) rfl)
    | 9, e => cases e; exact He.glo_ok X G (c.fact 9 (f := .glo ("is_arm" : PySem.Str)) rfl)
    | 10, e => cases e; exact He.glo_ok X G (c.fact 10 (f := .glo ("need_arm" : PySem.Str)) rfl)
    | 11, e => cases e; exact He.glo_ok X G (c.fact 11 (f := .glo ("paths_by" : PySem.Str)) rfl)
    | 12, e => cases e; exact He.glo_ok X G (c.fact 12 (f := .glo ("paths" : PySem.Str)) rfl)
    | 13, e => cases e; exact He.glo_ok X G (c.fact 13 (f := .glo ("is_path" : PySem.Str)) rfl)
    | 14, e => cases e; exact He.glo_ok X G (c.fact 14 (f := .glo ("need_path" : PySem.Str)) rfl)
    | 15, e => cases e; exact He.glo_ok X G (c.fact 15 (f := .glo ("arm_by" : PySem.Str)) rfl)
    | 16, e => cases e; exact He.glo_ok X G (c.fact 16 (f := .glo ("arm_at" : PySem.Str)) rfl)
    | 17, e => cases e; exact He.glo_ok X G (c.fact 17 (f := .glo ("mirrored_by" : PySem.Str)) rfl)
    | 18, e => cases e; exact He.glo_ok X G (c.fact 18 (f := .glo ("mirrored" : PySem.Str)) rfl)
    | 19, e => cases e; exact He.glo_ok X G (c.fact 19 (f := .glo ("put_by" : PySem.Str)) rfl)
    | 20, e => cases e; exact He.glo_ok X G (c.fact 20 (f := .glo ("put" : PySem.Str)) rfl)
    | 21, e => cases e; exact He.glo_ok X G (c.fact 21 (f := .glo ("is_bead" : PySem.Str)) rfl)
    | 22, e => cases e; exact He.glo_ok X G (c.fact 22 (f := .glo ("are_beads" : PySem.Str)) rfl)
    | 23, e => cases e; exact He.glo_ok X G (c.fact 23 (f := .glo ("is_standing_by" : PySem.Str)) rfl)
    | 24, e => cases e; exact He.glo_ok X G (c.fact 24 (f := .glo ("is_standing" : PySem.Str)) rfl)
    | 25, e => cases e; exact He.glo_ok X G (c.fact 25 (f := .glo ("need_standing" : PySem.Str)) rfl)
    | 26, e => cases e; exact He.glo_ok X G (c.fact 26 (f := .glo ("bare" : PySem.Str)) rfl)
    | 27, e => cases e
    | 28, e => cases e
    | 29, e => cases e; exact He.glo_ok X G (c.fact 27 (f := .glo ("word_by" : PySem.Str)) rfl)
    | 30, e => cases e; exact He.glo_ok X G (c.fact 28 (f := .glo ("words_by" : PySem.Str)) rfl)
    | 31, e => cases e; exact He.glo_ok X G (c.fact 29 (f := .glo ("need_place_of" : PySem.Str)) rfl)
    | 32, e => cases e; exact He.glo_ok X G (c.fact 30 (f := .glo ("load" : PySem.Str)) rfl)
    | 33, e => cases e; exact He.glo_ok X G (c.fact 31 (f := .glo ("tilt" : PySem.Str)) rfl)
    | 34, e => cases e; exact He.glo_ok X G (c.fact 32 (f := .glo ("word" : PySem.Str)) rfl)
    | 35, e => cases e; exact He.glo_ok X G (c.fact 33 (f := .glo ("_law_cell_at" : PySem.Str)) rfl)
    | 36, e => cases e; exact He.glo_ok X G (c.fact 34 (f := .glo ("_law_pen" : PySem.Str)) rfl)
    | 37, e => cases e; exact He.glo_ok X G (c.fact 35 (f := .glo ("_law_draw" : PySem.Str)) rfl)
    | 38, e => cases e; exact He.glo_ok X G (c.fact 36 (f := .glo ("_law_kind" : PySem.Str)) rfl)
    | 39, e => cases e; exact He.glo_ok X G (c.fact 37 (f := .glo ("_law_arms_right" : PySem.Str)) rfl)
    | 40, e => cases e; exact He.glo_ok X G (c.fact 38 (f := .glo ("_law_beads_right" : PySem.Str)) rfl)
    | 41, e => cases e; exact He.glo_ok X G (c.fact 39 (f := .glo ("_law_errors_right" : PySem.Str)) rfl)
    | 42, e => cases e; exact He.glo_ok X G (c.fact 40 (f := .glo ("law" : PySem.Str)) rfl)
    | k + 43, e => cases e
  · match C, e with
    | 0, e => cases e
    | 1, e => cases e
    | 2, e => cases e
    | 3, e => cases e
    | 4, e => cases e
    | 5, e => cases e
    | 6, e => cases e
    | 7, e => cases e
    | 8, e => cases e
    | 9, e => cases e
    | 10, e => cases e
    | 11, e => cases e
    | 12, e => cases e
    | 13, e => cases e
    | 14, e => cases e
    | 15, e => cases e; exact ⟨He.glo_ok X G (c.fact 66 (f := .glo ("Seen" : PySem.Str)) rfl), He.mkr_ok (c.fact 68 (f := .mkr ("Seen" : PySem.Str)) rfl), He.cls_ok (c.fact 67 (f := .cls ("Seen" : PySem.Str)) rfl)⟩
    | k + 16, e => cases e
  · match C, e with
    | 0, e => cases e
    | 1, e => cases e
    | 2, e => cases e
    | 3, e => cases e
    | 4, e => cases e
    | 5, e => cases e
    | 6, e => cases e
    | 7, e => cases e
    | 8, e => cases e
    | 9, e => cases e
    | 10, e => cases e
    | 11, e => cases e
    | 12, e => cases e
    | 13, e => cases e
    | 14, e => cases e
    | 15, e =>
      simp only [Γ, flds, List.mem_cons, List.not_mem_nil, or_false] at hf
      rcases hf with rfl | rfl | rfl
      · exact He.noat_ok (c.fact 69 (f := .noat ("Seen" : PySem.Str) ("beads" : PySem.Str)) rfl)
      · exact He.noat_ok (c.fact 70 (f := .noat ("Seen" : PySem.Str) ("loads" : PySem.Str)) rfl)
      · exact He.noat_ok (c.fact 71 (f := .noat ("Seen" : PySem.Str) ("tilts" : PySem.Str)) rfl)
    | k + 16, e => cases e
  · match C, e with
    | 0, e => cases e
    | 1, e => cases e
    | 2, e => cases e
    | 3, e => cases e
    | 4, e => cases e
    | 5, e => cases e
    | 6, e => cases e
    | 7, e => cases e
    | 8, e => cases e
    | 9, e => cases e
    | 10, e => cases e
    | 11, e => cases e
    | 12, e => cases e
    | 13, e => cases e
    | 14, e => cases e
    | 15, e =>
      simp only [Γ, mths, List.mem_cons, List.not_mem_nil, or_false, Prod.mk.injEq] at hm
      rcases hm with ⟨rfl, rfl⟩
      · exact He.meth_ok (c.fact 72 (f := .meth ("Seen" : PySem.Str) ("look" : PySem.Str)) rfl)
    | k + 16, e => cases e
  · have e : csts x = some v := e
    unfold csts at e
    by_cases hs : sEq x ("MOST_SIDE" : PySem.Str) = true
    · rw [if_pos hs] at e
      have hs := sEq_iff.mp hs
      subst hs
      cases e
      obtain ⟨t, q⟩ := He.int_ok X G (c.fact 55 (f := .int ("MOST_SIDE" : PySem.Str) 3) rfl)
      exact ⟨_, .int 3, q, ⟨t, rfl⟩, fun κ F ρ H _ => by simp only [RV]⟩
    rw [if_neg hs] at e
    by_cases hs : sEq x ("MOST_SLACK" : PySem.Str) = true
    · rw [if_pos hs] at e
      have hs := sEq_iff.mp hs
      subst hs
      cases e
      obtain ⟨t, q⟩ := He.int_ok X G (c.fact 56 (f := .int ("MOST_SLACK" : PySem.Str) 9) rfl)
      exact ⟨_, .int 9, q, ⟨t, rfl⟩, fun κ F ρ H _ => by simp only [RV]⟩
    rw [if_neg hs] at e
    by_cases hs : sEq x ("MOST_HOLDS" : PySem.Str) = true
    · rw [if_pos hs] at e
      have hs := sEq_iff.mp hs
      subst hs
      cases e
      obtain ⟨t, q⟩ := He.int_ok X G (c.fact 57 (f := .int ("MOST_HOLDS" : PySem.Str) 3) rfl)
      exact ⟨_, .int 3, q, ⟨t, rfl⟩, fun κ F ρ H _ => by simp only [RV]⟩
    rw [if_neg hs] at e
    by_cases hs : sEq x ("MOST_WEIGHT" : PySem.Str) = true
    · rw [if_pos hs] at e
      have hs := sEq_iff.mp hs
      subst hs
      cases e
      obtain ⟨t, q⟩ := He.int_ok X G (c.fact 58 (f := .int ("MOST_WEIGHT" : PySem.Str) 9) rfl)
      exact ⟨_, .int 9, q, ⟨t, rfl⟩, fun κ F ρ H _ => by simp only [RV]⟩
    rw [if_neg hs] at e
    by_cases hs : sEq x ("MOST_ARMS" : PySem.Str) = true
    · rw [if_pos hs] at e
      have hs := sEq_iff.mp hs
      subst hs
      cases e
      obtain ⟨t, q⟩ := He.int_ok X G (c.fact 59 (f := .int ("MOST_ARMS" : PySem.Str) 4) rfl)
      exact ⟨_, .int 4, q, ⟨t, rfl⟩, fun κ F ρ H _ => by simp only [RV]⟩
    rw [if_neg hs] at e
    by_cases hs : sEq x ("MOST_DEEP" : PySem.Str) = true
    · rw [if_pos hs] at e
      have hs := sEq_iff.mp hs
      subst hs
      cases e
      obtain ⟨t, q⟩ := He.int_ok X G (c.fact 60 (f := .int ("MOST_DEEP" : PySem.Str) 3) rfl)
      exact ⟨_, .int 3, q, ⟨t, rfl⟩, fun κ F ρ H _ => by simp only [RV]⟩
    rw [if_neg hs] at e
    by_cases hs : sEq x ("LONG_ARM" : PySem.Str) = true
    · rw [if_pos hs] at e
      have hs := sEq_iff.mp hs
      subst hs
      cases e
      obtain ⟨t, q⟩ := He.int_ok X G (c.fact 61 (f := .int ("LONG_ARM" : PySem.Str) 5) rfl)
      exact ⟨_, .int 5, q, ⟨t, rfl⟩, fun κ F ρ H _ => by simp only [RV]⟩
    rw [if_neg hs] at e
    by_cases hs : sEq x ("MOST_BEAD" : PySem.Str) = true
    · rw [if_pos hs] at e
      have hs := sEq_iff.mp hs
      subst hs
      cases e
      obtain ⟨t, q⟩ := He.int_ok X G (c.fact 62 (f := .int ("MOST_BEAD" : PySem.Str) 3) rfl)
      exact ⟨_, .int 3, q, ⟨t, rfl⟩, fun κ F ρ H _ => by simp only [RV]⟩
    rw [if_neg hs] at e
    by_cases hs : sEq x ("LEVEL" : PySem.Str) = true
    · rw [if_pos hs] at e
      have hs := sEq_iff.mp hs
      subst hs
      cases e
      obtain ⟨t, q⟩ := He.str_ok X G (c.fact 63 (f := .str ("LEVEL" : PySem.Str) ("level" : PySem.Str)) rfl)
      exact ⟨_, .str ("level" : PySem.Str), q, ⟨t, rfl⟩, fun κ F ρ H _ => by simp only [RV]; rfl⟩
    rw [if_neg hs] at e
    by_cases hs : sEq x ("LEFT" : PySem.Str) = true
    · rw [if_pos hs] at e
      have hs := sEq_iff.mp hs
      subst hs
      cases e
      obtain ⟨t, q⟩ := He.str_ok X G (c.fact 64 (f := .str ("LEFT" : PySem.Str) ("left" : PySem.Str)) rfl)
      exact ⟨_, .str ("left" : PySem.Str), q, ⟨t, rfl⟩, fun κ F ρ H _ => by simp only [RV]; rfl⟩
    rw [if_neg hs] at e
    by_cases hs : sEq x ("RIGHT" : PySem.Str) = true
    · rw [if_pos hs] at e
      have hs := sEq_iff.mp hs
      subst hs
      cases e
      obtain ⟨t, q⟩ := He.str_ok X G (c.fact 65 (f := .str ("RIGHT" : PySem.Str) ("right" : PySem.Str)) rfl)
      exact ⟨_, .str ("right" : PySem.Str), q, ⟨t, rfl⟩, fun κ F ρ H _ => by simp only [RV]; rfl⟩
    rw [if_neg hs] at e
    · cases e
  · have all : ∀ x ∈ fre, mg x = none := (List.forall_mem_cons.mpr ⟨He.free_ok X G (c.fact 41 (f := .free ("ValueError" : PySem.Str)) rfl), (List.forall_mem_cons.mpr ⟨He.free_ok X G (c.fact 42 (f := .free ("all" : PySem.Str)) rfl), (List.forall_mem_cons.mpr ⟨He.free_ok X G (c.fact 43 (f := .free ("bool" : PySem.Str)) rfl), (List.forall_mem_cons.mpr ⟨He.free_ok X G (c.fact 44 (f := .free ("dict" : PySem.Str)) rfl), (List.forall_mem_cons.mpr ⟨He.free_ok X G (c.fact 45 (f := .free ("int" : PySem.Str)) rfl), (List.forall_mem_cons.mpr ⟨He.free_ok X G (c.fact 46 (f := .free ("isinstance" : PySem.Str)) rfl), (List.forall_mem_cons.mpr ⟨He.free_ok X G (c.fact 47 (f := .free ("len" : PySem.Str)) rfl), (List.forall_mem_cons.mpr ⟨He.free_ok X G (c.fact 48 (f := .free ("list" : PySem.Str)) rfl), (List.forall_mem_cons.mpr ⟨He.free_ok X G (c.fact 49 (f := .free ("max" : PySem.Str)) rfl), (List.forall_mem_cons.mpr ⟨He.free_ok X G (c.fact 50 (f := .free ("min" : PySem.Str)) rfl), (List.forall_mem_cons.mpr ⟨He.free_ok X G (c.fact 51 (f := .free ("range" : PySem.Str)) rfl), (List.forall_mem_cons.mpr ⟨He.free_ok X G (c.fact 52 (f := .free ("sum" : PySem.Str)) rfl), (List.forall_mem_cons.mpr ⟨He.free_ok X G (c.fact 53 (f := .free ("tuple" : PySem.Str)) rfl), (List.forall_mem_cons.mpr ⟨He.free_ok X G (c.fact 54 (f := .free ("zip" : PySem.Str)) rfl), (fun _ h => nomatch h)⟩)⟩)⟩)⟩)⟩)⟩)⟩)⟩)⟩)⟩)⟩)⟩)⟩)⟩)
    exact all x hx
  · exact absurd (show C ∈ ([] : List Nat) from hC) List.not_mem_nil
  · match C, e with
    | 0, e => cases e; exact ⟨He.glo_ok X G (c.fact 99 (f := .glo ("TiltError" : PySem.Str)) rfl), ⟨(He.exc_ok (c.fact 100 (f := .exc ("TiltError" : PySem.Str)) rfl)).2.1, ⟨_, _, _, _, PySem.F.excBase_ValueError, (He.exc_ok (c.fact 100 (f := .exc ("TiltError" : PySem.Str)) rfl)).1⟩, (He.exc_ok (c.fact 100 (f := .exc ("TiltError" : PySem.Str)) rfl)).2.2.1, (He.exc_ok (c.fact 100 (f := .exc ("TiltError" : PySem.Str)) rfl)).2.2.2⟩⟩
    | 1, e => cases e; exact ⟨He.glo_ok X G (c.fact 73 (f := .glo ("NoArm" : PySem.Str)) rfl), ⟨(He.exc_ok (c.fact 74 (f := .exc ("NoArm" : PySem.Str)) rfl)).2.1, ⟨_, _, _, _, PySem.F.excBase_ValueError, (He.exc_ok (c.fact 74 (f := .exc ("NoArm" : PySem.Str)) rfl)).1⟩, (He.exc_ok (c.fact 74 (f := .exc ("NoArm" : PySem.Str)) rfl)).2.2.1, (He.exc_ok (c.fact 74 (f := .exc ("NoArm" : PySem.Str)) rfl)).2.2.2⟩⟩
    | 2, e => cases e; exact ⟨He.glo_ok X G (c.fact 75 (f := .glo ("NoPath" : PySem.Str)) rfl), ⟨(He.exc_ok (c.fact 76 (f := .exc ("NoPath" : PySem.Str)) rfl)).2.1, ⟨_, _, _, _, PySem.F.excBase_ValueError, (He.exc_ok (c.fact 76 (f := .exc ("NoPath" : PySem.Str)) rfl)).1⟩, (He.exc_ok (c.fact 76 (f := .exc ("NoPath" : PySem.Str)) rfl)).2.2.1, (He.exc_ok (c.fact 76 (f := .exc ("NoPath" : PySem.Str)) rfl)).2.2.2⟩⟩
    | 3, e => cases e; exact ⟨He.glo_ok X G (c.fact 77 (f := .glo ("NoThing" : PySem.Str)) rfl), ⟨(He.exc_ok (c.fact 78 (f := .exc ("NoThing" : PySem.Str)) rfl)).2.1, ⟨_, _, _, _, PySem.F.excBase_ValueError, (He.exc_ok (c.fact 78 (f := .exc ("NoThing" : PySem.Str)) rfl)).1⟩, (He.exc_ok (c.fact 78 (f := .exc ("NoThing" : PySem.Str)) rfl)).2.2.1, (He.exc_ok (c.fact 78 (f := .exc ("NoThing" : PySem.Str)) rfl)).2.2.2⟩⟩
    | 4, e => cases e; exact ⟨He.glo_ok X G (c.fact 79 (f := .glo ("NoStanding" : PySem.Str)) rfl), ⟨(He.exc_ok (c.fact 80 (f := .exc ("NoStanding" : PySem.Str)) rfl)).2.1, ⟨_, _, _, _, PySem.F.excBase_ValueError, (He.exc_ok (c.fact 80 (f := .exc ("NoStanding" : PySem.Str)) rfl)).1⟩, (He.exc_ok (c.fact 80 (f := .exc ("NoStanding" : PySem.Str)) rfl)).2.2.1, (He.exc_ok (c.fact 80 (f := .exc ("NoStanding" : PySem.Str)) rfl)).2.2.2⟩⟩
    | 5, e => cases e; exact ⟨He.glo_ok X G (c.fact 81 (f := .glo ("NoFalls" : PySem.Str)) rfl), ⟨(He.exc_ok (c.fact 82 (f := .exc ("NoFalls" : PySem.Str)) rfl)).2.1, ⟨_, _, _, _, PySem.F.excBase_ValueError, (He.exc_ok (c.fact 82 (f := .exc ("NoFalls" : PySem.Str)) rfl)).1⟩, (He.exc_ok (c.fact 82 (f := .exc ("NoFalls" : PySem.Str)) rfl)).2.2.1, (He.exc_ok (c.fact 82 (f := .exc ("NoFalls" : PySem.Str)) rfl)).2.2.2⟩⟩
    | 6, e => cases e; exact ⟨He.glo_ok X G (c.fact 83 (f := .glo ("NoDrops" : PySem.Str)) rfl), ⟨(He.exc_ok (c.fact 84 (f := .exc ("NoDrops" : PySem.Str)) rfl)).2.1, ⟨_, _, _, _, PySem.F.excBase_ValueError, (He.exc_ok (c.fact 84 (f := .exc ("NoDrops" : PySem.Str)) rfl)).1⟩, (He.exc_ok (c.fact 84 (f := .exc ("NoDrops" : PySem.Str)) rfl)).2.2.1, (He.exc_ok (c.fact 84 (f := .exc ("NoDrops" : PySem.Str)) rfl)).2.2.2⟩⟩
    | 7, e => cases e; exact ⟨He.glo_ok X G (c.fact 85 (f := .glo ("NoPlace" : PySem.Str)) rfl), ⟨(He.exc_ok (c.fact 86 (f := .exc ("NoPlace" : PySem.Str)) rfl)).2.1, ⟨_, _, _, _, PySem.F.excBase_ValueError, (He.exc_ok (c.fact 86 (f := .exc ("NoPlace" : PySem.Str)) rfl)).1⟩, (He.exc_ok (c.fact 86 (f := .exc ("NoPlace" : PySem.Str)) rfl)).2.2.1, (He.exc_ok (c.fact 86 (f := .exc ("NoPlace" : PySem.Str)) rfl)).2.2.2⟩⟩
    | 8, e => cases e; exact ⟨He.glo_ok X G (c.fact 87 (f := .glo ("NotNow" : PySem.Str)) rfl), ⟨(He.exc_ok (c.fact 88 (f := .exc ("NotNow" : PySem.Str)) rfl)).2.1, ⟨_, _, _, _, PySem.F.excBase_ValueError, (He.exc_ok (c.fact 88 (f := .exc ("NotNow" : PySem.Str)) rfl)).1⟩, (He.exc_ok (c.fact 88 (f := .exc ("NotNow" : PySem.Str)) rfl)).2.2.1, (He.exc_ok (c.fact 88 (f := .exc ("NotNow" : PySem.Str)) rfl)).2.2.2⟩⟩
    | 9, e => cases e; exact ⟨He.glo_ok X G (c.fact 89 (f := .glo ("NoPart" : PySem.Str)) rfl), ⟨(He.exc_ok (c.fact 90 (f := .exc ("NoPart" : PySem.Str)) rfl)).2.1, ⟨_, _, _, _, PySem.F.excBase_ValueError, (He.exc_ok (c.fact 90 (f := .exc ("NoPart" : PySem.Str)) rfl)).1⟩, (He.exc_ok (c.fact 90 (f := .exc ("NoPart" : PySem.Str)) rfl)).2.2.1, (He.exc_ok (c.fact 90 (f := .exc ("NoPart" : PySem.Str)) rfl)).2.2.2⟩⟩
    | 10, e => cases e; exact ⟨He.glo_ok X G (c.fact 91 (f := .glo ("NoRow" : PySem.Str)) rfl), ⟨(He.exc_ok (c.fact 92 (f := .exc ("NoRow" : PySem.Str)) rfl)).2.1, ⟨_, _, _, _, PySem.F.excBase_ValueError, (He.exc_ok (c.fact 92 (f := .exc ("NoRow" : PySem.Str)) rfl)).1⟩, (He.exc_ok (c.fact 92 (f := .exc ("NoRow" : PySem.Str)) rfl)).2.2.1, (He.exc_ok (c.fact 92 (f := .exc ("NoRow" : PySem.Str)) rfl)).2.2.2⟩⟩
    | 11, e => cases e; exact ⟨He.glo_ok X G (c.fact 93 (f := .glo ("NoDeed" : PySem.Str)) rfl), ⟨(He.exc_ok (c.fact 94 (f := .exc ("NoDeed" : PySem.Str)) rfl)).2.1, ⟨_, _, _, _, PySem.F.excBase_ValueError, (He.exc_ok (c.fact 94 (f := .exc ("NoDeed" : PySem.Str)) rfl)).1⟩, (He.exc_ok (c.fact 94 (f := .exc ("NoDeed" : PySem.Str)) rfl)).2.2.1, (He.exc_ok (c.fact 94 (f := .exc ("NoDeed" : PySem.Str)) rfl)).2.2.2⟩⟩
    | 12, e => cases e; exact ⟨He.glo_ok X G (c.fact 95 (f := .glo ("NoText" : PySem.Str)) rfl), ⟨(He.exc_ok (c.fact 96 (f := .exc ("NoText" : PySem.Str)) rfl)).2.1, ⟨_, _, _, _, PySem.F.excBase_ValueError, (He.exc_ok (c.fact 96 (f := .exc ("NoText" : PySem.Str)) rfl)).1⟩, (He.exc_ok (c.fact 96 (f := .exc ("NoText" : PySem.Str)) rfl)).2.2.1, (He.exc_ok (c.fact 96 (f := .exc ("NoText" : PySem.Str)) rfl)).2.2.2⟩⟩
    | 13, e => cases e; exact ⟨He.glo_ok X G (c.fact 97 (f := .glo ("NoLine" : PySem.Str)) rfl), ⟨(He.exc_ok (c.fact 98 (f := .exc ("NoLine" : PySem.Str)) rfl)).2.1, ⟨_, _, _, _, PySem.F.excBase_ValueError, (He.exc_ok (c.fact 98 (f := .exc ("NoLine" : PySem.Str)) rfl)).1⟩, (He.exc_ok (c.fact 98 (f := .exc ("NoLine" : PySem.Str)) rfl)).2.2.1, (He.exc_ok (c.fact 98 (f := .exc ("NoLine" : PySem.Str)) rfl)).2.2.2⟩⟩
    | 14, e => cases e
    | 15, e => cases e
    | k + 16, e => cases e
  · have all : ∀ p ∈ exl, PySem.W.exmOne K (.ref (clOf K p.1)) (.ref (clOf K p.2)) = some true := (fun _ h => nomatch h)
    exact all p hp
end Dn

namespace Dn
open PySem L2
theorem shut {P : PySem.Program} {w : PySem.World} {K : PySem.W.Frag} {mg : PySem.Str → Option PySem.Value} {base : PySem.Heap} {k : Nat} {f : PySem.Addr} {fd : PySem.FuncData} {ps : List PySem.Str} {sp : L2.Sp} (F : L2.FnG P w K mg base (L2.CX P w) k f fd ps sp) :
    L2.FnG P w K mg base L2.CX0 k f fd ps (fun vs H Q _ => sp vs H Q fun _ _ _ => False) := by
  refine ⟨fun vs H Q E h => F.len _ _ _ _ h, fun A outer s H args us vs Q E ng hr e0 hb rv h => ?_⟩
  refine PySem.codeAny_mono (F.run A outer s H args us vs Q _ ng hr e0 hb rv h) fun r s' q => ?_
  cases r with
  | ok x => cases x <;> exact q
  | error e =>
    obtain ⟨_, _, _, _, _, _, _, _, _, _, _, _, z⟩ := (show L2.CX P w outer H s (fun _ _ _ => False) e s' from q)
    exact z.elim
def PlainLaw : Prop := ∀ xs : List Int, xs.length ≤ 63 → ∃ st, callN tbl 30 42 [.scr xs] [] = .ok (.bl true) st
theorem facts {P : PySem.Program} {w : PySem.World} {K : PySem.W.Frag} {h : PySem.Heap} {mg : PySem.Str → Option PySem.Value} {f : PySem.Addr} (pl : PlainLaw) (X : K.In h) (G : h.Ns PySem.mainGlobals mg) (hfa : mg ("law" : PySem.Str) = some (.ref f)) (c : He.SaysD fas fn K) (ex : exB K = true) :
    ∃ (fd : PySem.FuncData) (sp : L2.Sp), (∀ (s : PySem.Shared) (u : PySem.Value), PySem.BindsTo s fd ⟨[u], []⟩ [(("_law_script" : PySem.Str), u)]) ∧
      (∀ (H : L2.Hp) (a : PySem.Addr) (xs : List Int), xs.length ≤ 63 → (∀ t ∈ (tabsK K).map fun t => (t.1, t.2.1), H t.2 = some (.tbl #[])) → L2.SqL K H a (xs.map L2.V.int) → sp [.ref a] H (fun v _ => v = .bl true) fun _ _ _ => False) ∧ ∀ base : PySem.Heap, (∀ t ∈ (tabsK K).map fun t => (t.1, t.2.1), LamX.TabB base mg t.1 t.2) → L2.FnG P w K mg base L2.CX0 (2 * 30) f fd [("_law_script" : PySem.Str)] sp := by
  obtain ⟨fd, F⟩ := c.def_ 42 (d := dd_law) rfl
  have e := hfa.symm.trans (He.glo_ok X G (c.fact 40 (f := .glo "law") rfl))
  cases e
  have b := L2.FunD.bindsA (ps := [("_law_script" : PySem.Str)]) F fun _ _ _ _ _ _ us hl => match us, hl with | [_], _ => rfl
  refine ⟨fd, _, fun s u => b s [u] rfl, ?_, fun base htb => shut (spI_ok (Γ := Γ) (c := clOf K) (fa := faOf K) (f := 42) lq_law rfl F sc_law rfl rfl s_law (fun m _ => envAll (P := P) (w := w) (base := base) X G c ex (fun t ht => htb (t.1, t.2.1) (List.mem_map.mpr ⟨t, ht, rfl⟩)) m))⟩
  intro H a xs hl htb hs
  obtain ⟨st, ec⟩ := pl xs hl
  refine ⟨fun _ => False, [], [], [.scr xs], Wd.nil (fun _ z => z.elim) (fun t ht => LamX.TabS.nil (htb (t.1, t.2.1) (List.mem_map.mpr ⟨t, ht, rfl⟩))), ?_, ⟨_, rfl, rfl⟩, ?_⟩
  · simp only [RVs, RV]
    refine ⟨_, _, rfl, ⟨a, rfl, ?_⟩, rfl⟩
    rcases hs with hs | hs
    · exact .inl ⟨hs, fun z => z.elim id fun z => by simp at z⟩
    · exact .inr (.inr hs)
  · show OutF _ _ _ _ (callN tbl 30 42 [.scr xs] []) _ _
    rw [ec]
    intro ρ' H' u _ _ ru
    exact rv_bl ru
end Dn
open PySem PySem.W PySem.Calls PyProof.Rows
theorem zed (pl : Dn.PlainLaw) : PySem.Challenge.rw_tiltbeads_k06_an_arm_by_hand_and_by_name.Holds := by
  w_on; o_law
  refine HandSHeadRun.head_any (r := Dn.Rw) (q := view Dn.Rw.prog [71]) (H := Dn.hkX) (ob := Dn.obX) (M := 9000) (loose := Dn.loose) (d := HandSHeadRun.topDef Dn.Rw.prog 71) (kwd := []) Dn.obX_eq
    (by kernel_rfl) (fun s => by kernel_rfl) Dn.runX (by kernel_rfl) (by kernel_rfl) (by kernel_rfl) (by rfl) (by first | assumption | decide +kernel) (by decide +kernel) ⟨rfl, rfl, rfl, rfl, rfl, by decide +kernel⟩ ?hw ?hc
  case hw => w_witness2
  case hc =>
    refine L2.walk_gT (l := PySem.Challenge.rw_tiltbeads_k06_an_arm_by_hand_and_by_name) (most := 63) (lv := 2 * 30) (nm := ("_law_script" : PySem.Str)) (ways := L2.CX0) rfl (by decide) (by kernel_rfl) ⟨rfl, by decide, by decide⟩ ?F (fun _ _ _ _ z => z)
    intro w mg fa h Y G hmg0
    obtain ⟨K, KX, c, ex, tbe⟩ := Y
    have hmg : mg ("law" : PySem.Str) = some (.ref fa) := by
      have e : (HandSHeadRun.topDef Dn.Rw.prog 71).name = ("law" : PySem.Str) := by kernel_rfl
      rw [← e]
      exact hmg0
    obtain ⟨fd, sp, hb, hs, hF⟩ := Dn.facts (P := (PySem.Challenge.rw_tiltbeads_k06_an_arm_by_hand_and_by_name).prog) (w := w) pl KX G hmg c ex
    refine ⟨K, (Dn.tabsK K).map fun t => (t.1, t.2.1), fd, sp, KX, fun t ht => ?_, fun t ht => ?_, fun t ht => ?_, hb, fun H a ns hl hT hS => hs H a ns hl hT hS, fun base _ _ htb => hF base htb⟩
    all_goals obtain ⟨u, hu, rfl⟩ := List.mem_map.mp ht
    · exact tbe u hu
    · exact (Dn.tabs_in hu).2
    · exact PySem.W.codeHd_of_K KX (Dn.tabs_in hu).1

theorem PySem.Challenge.cw_tiltbeads_k06_an_arm_by_hand_and_by_name_holds : PySem.Challenge.rw_tiltbeads_k06_an_arm_by_hand_and_by_name.Holds := by
  exact zed fun xs h => Dn.plain_law xs h
